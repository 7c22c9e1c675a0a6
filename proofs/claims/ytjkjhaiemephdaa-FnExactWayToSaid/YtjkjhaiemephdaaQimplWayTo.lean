/- A Go function as a Lean function, and its contract: for every input the Go code comes to what the Lean function tells. -/
import Derived.Test.YtjkjhaiemephdaaQk
import Derived.Test.YtjkjhaiemephdaaQimplcopyWay
namespace Go.Proofs.Ytjkjhaiemephdaa.Q
open Go.RowKit Go.Proofs.YtjkjhaiemephdaaW.PrintWords Go.Proofs.YtjkjhaiemephdaaW.PrintLast Go.Proofs.YtjkjhaiemephdaaW.PrintMore
attribute [local go_sem] max2_int min2_int max_two min_two max_three min_three max_four min_four   -- for this text's walks alone
set_option linter.unusedVariables false
set_option linter.unusedSimpArgs false

/-! ### impl_WayTo: function 56 -/
def impl_WayTo.l0 : Nat → Int → List (S27) → Int → Int → Option (Int × Int × List Int × Bool)
  | 0, _, _, _, _ => none
  | k + 1, x1, x8, x9, x10 => if x10 < x9 then (if 0 ≤ x10 then (if x10 < (x8.length : Int) then (if ((rd_T27 x8 x10).f0) = x1 then ((impl_copyWay.f ((rd_T27 x8 x10).f0) ((rd_T27 x8 x10).f1) ((rd_T27 x8 x10).f2)).bind fun bt1023 => (some (bt1023.1, bt1023.2.1, bt1023.2.2, true))) else (impl_WayTo.l0 k x1 x8 x9 (wrap64 (x10 + 1)))) else (none)) else (none)) else (some (0, 0, ([] : List Int), false))
def impl_WayTo.f (k : Nat) (l0 : List (S27)) (a1 : Int) : Option (Int × Int × List Int × Bool) := impl_WayTo.l0 k a1 l0 (l0.length : Int) 0
theorem impl_WayTo.mono_l : ∀ k, (∀ y0 y1 y2 y3, LeO (impl_WayTo.l0 k y0 y1 y2 y3) (impl_WayTo.l0 (k + 1) y0 y1 y2 y3))
  | 0 => fun _ _ _ _ r h => by simp [impl_WayTo.l0] at h
  | k + 1 => by
    have ih0 := impl_WayTo.mono_l k
    · intro y0 y1 y2 y3
      unfold impl_WayTo.l0
      repeat' first
      | (with_reducible exact ih0 _ _ _ _)
      | (with_reducible exact LeO.refl _)
      | (with_reducible exact LeO.none _)
      | (with_reducible refine LeO.ite ?_ ?_)
      | (with_reducible refine LeO.bind ?_ (fun _ => ?_))
      | exact ih0 _ _ _ _
      | exact LeO.none _
      | refine LeO.ite ?_ ?_
      | refine LeO.bind ?_ (fun _ => ?_)
theorem impl_WayTo.mono : ∀ a0 a1 k, LeO (impl_WayTo.f k a0 a1) (impl_WayTo.f (k + 1) a0 a1) := by
  intro a0 a1 k
  have ih0 := impl_WayTo.mono_l k
  unfold impl_WayTo.f
  repeat' first
      | (with_reducible exact ih0 _ _ _ _)
      | (with_reducible exact LeO.refl _)
      | (with_reducible exact LeO.none _)
      | (with_reducible refine LeO.ite ?_ ?_)
      | (with_reducible refine LeO.bind ?_ (fun _ => ?_))
      | exact ih0 _ _ _ _
      | exact LeO.none _
      | refine LeO.ite ?_ ?_
      | refine LeO.bind ?_ (fun _ => ?_)
set_option maxHeartbeats 8000000 in
set_option maxRecDepth 100000 in
theorem impl_WayTo.calls (k : Nat) (A0 : Option Addr) (c0 : Nat) (l0 : List (S27)) (a1 : Int) (r1 : Int) (r2 : Int) (r3 : List Int) (r4 : Bool) (w : World) (hr0 : Kd.C k27 w A0 l0.length l0) (hc0 : l0.length ≤ c0) (h : impl_WayTo.f k l0 a1 = some (r1, r2, r3, r4)) :
    Calls Try.prog 56 #[.slice A0 l0.length c0, .int .i64 a1] w fun e w' => ∃ v2_ : Value, e = .returned (.tuple #[.agg #[.int .i64 r1, .int .i64 r2, v2_], .bool r4]) ∧ Kd.R (Kd.int .i64) 3 w' w.heap.size (fun _ => True) v2_ r3 ∧ Below w.heap.size w w' := by
  have hu27 := Try.underlying27
  have HR0 := Aside0.mk hr0
  have HC0 := Aside0.mk hc0
  clear hr0 hc0
  have HB := Aside0.mk (Below.refl w.heap.size w)
  have H : (impl_WayTo.l0 k a1 l0 (l0.length : Int) 0) = some (r1, r2, r3, r4) := h
  clear h
  have H' := Aside0.mk H
  clear H
  go_enter Try.func56, Try.ntmps56
  go_wp2_with (first | ((with_reducible refine gate_dst (N := 4) rfl ?_); refine box_event ?hg (N := 4) ?hd (cs := #[.int .i64 0, .int .i64 0, .slice none 0 0]) (t := 27) ?hr ?_; (case hd => rfl); (case hg => rfl); (case hr => first | (go_simp; done) | (go_simp; rfl)); intro gb1020 hg w3 hbox hb; have n0_ := Aside0.mk (below_step (by repeat (first | (with_reducible first | exact HB.out | apply below_alloc | apply pw_below_drewN | apply below_drew1) | exact HB.out)) hb); have n1_ := Aside0.mk (hbox); have n2_ := Aside0.mk ((by rw [hg]; exact (below_size (by repeat (first | (with_reducible first | exact HB.out | apply below_alloc | apply pw_below_drewN | apply below_drew1) | exact HB.out))) : w.heap.size ≤ gb1020)); have n3_ := Aside0.mk ((by rw [hg]; exact (below_size (by repeat (first | (with_reducible first | exact HB.out | apply below_alloc | apply pw_below_drewN | apply below_drew1) | exact HB.out))) : w.heap.size ≤ gb1020)); clear HB; have HB := n0_; have BK1020 := n1_; have GW1020 := n2_; have GE1020 := n3_; clear n0_ n1_ n2_ n3_; clear hb hbox hg))
  go_loopg [10] k (fun kq v10 w' => ∃ (x10_1 : Int) (x1021000_1 : Int) (x1021001_1 : Int), v10 = .int .i64 x10_1 ∧ Aside0 (impl_WayTo.l0 kq a1 l0 (l0.length : Int) x10_1 = some (r1, r2, r3, r4)) ∧ Aside0 (kq ≤ k) ∧ Aside0 (w'.heap[gb1020]? = some (.cells #[.int .i64 x1021000_1, .int .i64 x1021001_1, (.slice none 0 0)] 27 (0, 0))) ∧ Aside0 (Below w.heap.size w w'))
  case atStart => exact ⟨(0), (0), (0), (by first | rfl | (simp; done) | (simp [*]; done)), H', ⟨Nat.le_refl _⟩, ⟨by (with_reducible repeat (first | refine blk_drewN ?_ _ | refine blk_drew ?_ | refine blk_alloc ?_ _)); exact BK1020.out⟩, ⟨by repeat (first | (with_reducible first | exact HB.out | apply below_alloc | apply pw_below_drewN | apply below_drew1 | refine below_set ?_ GE1020.out) | exact HB.out)⟩⟩
  case round =>
    clear H'
    try clear p2
    obtain ⟨x10_1, x1021000_1, x1021001_1, rfl, HA, HK1, BK1020, HB⟩ := hrel
    cases gk with
    | zero => exact absurd HA.out (by simp [impl_WayTo.l0])
    | succ k1 =>
      have H := HA.out
      clear HA
      simp only [impl_WayTo.l0] at H
      by_cases c4 : x10_1 < (l0.length : Int)
      · rw [if_pos c4] at H
        have c4b0 : decide (x10_1 < (l0.length : Int)) = true := decide_eq_true c4
        clear c4
        by_cases c5 : 0 ≤ x10_1
        · rw [if_pos c5] at H
          have c5b0 : decide (0 ≤ x10_1) = true := decide_eq_true c5
          clear c5
          by_cases c6 : x10_1 < (l0.length : Int)
          · rw [if_pos c6] at H
            have c6b0 : decide (x10_1 < (l0.length : Int)) = true := decide_eq_true c6
            clear c6
            by_cases c7 : ((rd_T27 l0 x10_1).f0) = a1
            · rw [if_pos c7] at H
              have c7b0 : (((rd_T27 l0 x10_1).f0) == a1) = true := beq_iff_eq.mpr c7
              have c7b1 : (((rd_T27 l0 x10_1).f0) != a1) = false := bne_eq_false_iff_eq.mpr c7
              clear c7
              replace H := Option.bind_eq_some_iff.mp H
              obtain ⟨⟨t1023, t1024, t1025⟩, A80, H⟩ := H
              replace H : (some (t1023, t1024, t1025, true)) = some (r1, r2, r3, r4) := H
              have A8 := Aside0.mk A80
              clear A80
              simp only [Option.some.injEq, Prod.mk.injEq] at H
              obtain ⟨rfl, rfl, rfl, rfl⟩ := H
              have p1021 : 0 ≤ (x10_1 : Int) := of_decide_eq_true (by first | (with_reducible assumption) | assumption)
              have q1021 : x10_1 < (l0.length : Int) := of_decide_eq_true (by first | (with_reducible assumption) | assumption)
              obtain ⟨ad1021, A1021_2, c1021_2, e1021, hx1021_0, hx1021_1, hx1021_2, hl1021_2, hi1021_2⟩ := at_T27 HR0.out x10_1 p1021 q1021
              cases e1021
              replace hx1021_0 := (HB.out.cell (World.block_lt_of_cell? w _ hx1021_0)).trans hx1021_0
              replace hx1021_1 := (HB.out.cell (World.block_lt_of_cell? w _ hx1021_1)).trans hx1021_1
              replace hx1021_2 := (HB.out.cell (World.block_lt_of_cell? w _ hx1021_2)).trans hx1021_2
              have HR1021_2 := Aside0.mk hi1021_2
              have HC1021_2 := Aside0.mk hl1021_2
              clear hi1021_2 hl1021_2
              replace p1021 := eq_true p1021
              replace q1021 := eq_true q1021
              go_wp2_with (first | ((with_reducible refine gate_dst (N := 7) rfl ?_); refine box_event ?hg (N := 7) ?hd (cs := #[.int .i64 0, .int .i64 0, .slice none 0 0]) (t := 27) ?hr ?_; (case hd => rfl); (case hg => rfl); (case hr => first | (go_simp; done) | (go_simp; rfl)); intro gb1022 hg w9 hbox hb; have n0_ := Aside0.mk (blk_below (g := gb1020) (o := .cells #[.int .i64 x1021000_1, .int .i64 x1021001_1, .slice none 0 0] 27 (0, 0)) (by (with_reducible repeat (first | refine blk_drewN ?_ _ | refine blk_drew ?_ | refine blk_alloc ?_ _)); exact BK1020.out) hb); have n1_ := Aside0.mk (below_step (by repeat (first | (with_reducible first | exact HB.out | apply below_alloc | apply pw_below_drewN | apply below_drew1 | refine below_set ?_ GE1020.out) | exact HB.out)) hb); have n2_ := Aside0.mk (hbox); have n3_ := Aside0.mk ((by rw [hg]; exact (below_size (by repeat (first | (with_reducible first | exact HB.out | apply below_alloc | apply pw_below_drewN | apply below_drew1 | refine below_set ?_ GE1020.out) | exact HB.out))) : w.heap.size ≤ gb1022)); have n4_ := Aside0.mk ((by rw [hg]; exact (below_size (by repeat (first | (with_reducible first | exact HB.out | apply below_alloc | apply pw_below_drewN | apply below_drew1 | refine below_set ?_ GE1020.out) | exact HB.out))) : w.heap.size ≤ gb1022)); have n5_ := Aside0.mk ((by rw [hg]; exact Nat.ne_of_lt (blk_lt (g := gb1020) (o := .cells #[.int .i64 x1021000_1, .int .i64 x1021001_1, .slice none 0 0] 27 (0, 0)) (by (with_reducible repeat (first | refine blk_drewN ?_ _ | refine blk_drew ?_ | refine blk_alloc ?_ _)); exact BK1020.out)) : gb1020 ≠ gb1022)); have n6_ := Aside0.mk ((by rw [hg]; exact Nat.ne_of_gt (blk_lt (g := gb1020) (o := .cells #[.int .i64 x1021000_1, .int .i64 x1021001_1, .slice none 0 0] 27 (0, 0)) (by (with_reducible repeat (first | refine blk_drewN ?_ _ | refine blk_drew ?_ | refine blk_alloc ?_ _)); exact BK1020.out)) : gb1022 ≠ gb1020)); clear BK1020; clear HB; have BK1020 := n0_; have HB := n1_; have BK1022 := n2_; have GW1022 := n3_; have GE1022 := n4_; have NB1020_1022 := n5_; have NB1022_1020 := n6_; clear n0_ n1_ n2_ n3_ n4_ n5_ n6_; clear hb hbox hg; have hnb10 := NB1022_1020.out; have hnc10 := NB1020_1022.out; have hcz11_0 : w9.cell? ⟨gb1022, 0, none⟩ = some (.int .i64 0) := (blk_cell BK1022.out 0).trans rfl; have hcz11_1 : w9.cell? ⟨gb1022, 1, none⟩ = some (.int .i64 0) := (blk_cell BK1022.out 1).trans rfl; have hcz11_2 : w9.cell? ⟨gb1022, 2, none⟩ = some (.slice none 0 0) := (blk_cell BK1022.out 2).trans rfl; have hfz11_0 := blk_frozen BK1022.out 0; have hfz11_1 := blk_frozen BK1022.out 1; have hfz11_2 := blk_frozen BK1022.out 2) | ((with_reducible refine gate_callee (f := 104) rfl ?_); refine goesL_ (some 19) rfl rfl Try.func104 (by kernel_rfl) rfl #[.agg #[.int .i64 ((rd_T27 l0 x10_1).f0), .int .i64 ((rd_T27 l0 x10_1).f1), .slice A1021_2 ((rd_T27 l0 x10_1).f2).length c1021_2]] rfl (by (try simp only [List.map_toArray, List.map_cons, List.map_nil]); first | done | rfl | (simp only [List.length_drop, List.length_take]; rfl)) ?_; (with_reducible refine (impl_copyWay.calls ((rd_T27 l0 x10_1).f0) ((rd_T27 l0 x10_1).f1) _ _ ((rd_T27 l0 x10_1).f2) t1023 t1024 t1025 _ ?side1 ?side2 A8.out).mono ?_); (case side1 => exact Kd.C_below HR1021_2.out (by repeat (first | (with_reducible first | exact HB.out | apply below_alloc | apply pw_below_drewN | apply below_drew1 | refine below_set ?_ GE1020.out | refine below_set ?_ GE1022.out) | exact HB.out))); (case side2 => exact HC1021_2.out); rintro e w12 ⟨v1026, rfl, ho0, hb⟩; refine ⟨_, rfl, ?_⟩; have hs_v1026 : (v1026 : Value).oneCell' = true := (by first | (obtain ⟨A_, c_, e_⟩ := Kd.R_slice ho0; simp [e_, Value.oneCell']) | (obtain ⟨A_, c_, e_⟩ := Kd.S_slice ho0; simp [e_, Value.oneCell']) | (obtain ⟨A_, c_, e_⟩ := Kd.N_slice ho0; simp [e_, Value.oneCell']) | (obtain ⟨A_, c_, e_⟩ := Kd.V_slice ho0; simp [e_, Value.oneCell'])); have hst_v1026 := fun (w_ : World) (a_ : Addr) m_ => run_store Try.prog w_ a_ v1026 m_ hs_v1026; have n0_ := Aside0.mk (Kd.R_lower ho0 (below_size (by repeat (first | (with_reducible first | exact HB.out | apply below_alloc | apply pw_below_drewN | apply below_drew1 | refine below_set ?_ GE1020.out | refine below_set ?_ GE1022.out) | exact HB.out)))); have n1_ := Aside0.mk (blk_below (g := gb1020) (o := .cells #[.int .i64 x1021000_1, .int .i64 x1021001_1, .slice none 0 0] 27 (0, 0)) (by (with_reducible repeat (first | refine blk_drewN ?_ _ | refine blk_drew ?_ | refine blk_alloc ?_ _)); refine blk_far ?_ NB1020_1022.out _; (with_reducible repeat (first | refine blk_drewN ?_ _ | refine blk_drew ?_ | refine blk_alloc ?_ _)); refine blk_far ?_ NB1020_1022.out _; (with_reducible repeat (first | refine blk_drewN ?_ _ | refine blk_drew ?_ | refine blk_alloc ?_ _)); refine blk_far ?_ NB1020_1022.out _; (with_reducible repeat (first | refine blk_drewN ?_ _ | refine blk_drew ?_ | refine blk_alloc ?_ _)); exact BK1020.out) hb); have n2_ := Aside0.mk (blk_below (g := gb1022) (o := .cells #[.int .i64 ((rd_T27 l0 x10_1).f0), .int .i64 ((rd_T27 l0 x10_1).f1), .slice A1021_2 ((rd_T27 l0 x10_1).f2).length c1021_2] 27 (0, 0)) (by (with_reducible repeat (first | refine blk_drewN ?_ _ | refine blk_drew ?_ | refine blk_alloc ?_ _)); refine blk_put (cs := #[.int .i64 ((rd_T27 l0 x10_1).f0), .int .i64 ((rd_T27 l0 x10_1).f1), .slice none 0 0]) ?_ 2 _ rfl; (with_reducible repeat (first | refine blk_drewN ?_ _ | refine blk_drew ?_ | refine blk_alloc ?_ _)); refine blk_put (cs := #[.int .i64 ((rd_T27 l0 x10_1).f0), .int .i64 0, .slice none 0 0]) ?_ 1 _ rfl; (with_reducible repeat (first | refine blk_drewN ?_ _ | refine blk_drew ?_ | refine blk_alloc ?_ _)); refine blk_put (cs := #[.int .i64 0, .int .i64 0, .slice none 0 0]) ?_ 0 _ rfl; (with_reducible repeat (first | refine blk_drewN ?_ _ | refine blk_drew ?_ | refine blk_alloc ?_ _)); exact BK1022.out) hb); have n3_ := Aside0.mk (below_step (by repeat (first | (with_reducible first | exact HB.out | apply below_alloc | apply pw_below_drewN | apply below_drew1 | refine below_set ?_ GE1020.out | refine below_set ?_ GE1022.out) | exact HB.out)) hb); clear BK1020; clear BK1022; clear HB; have HO1027 := n0_; have BK1020 := n1_; have BK1022 := n2_; have HB := n3_; clear n0_ n1_ n2_ n3_; (try clear hb); (try clear hb2); (try clear hk); (try clear hi); (try clear ho0); have hcz13_0 : w12.cell? ⟨gb1020, 0, none⟩ = some (.int .i64 x1021000_1) := (blk_cell BK1020.out 0).trans rfl; have hcz13_1 : w12.cell? ⟨gb1020, 1, none⟩ = some (.int .i64 x1021001_1) := (blk_cell BK1020.out 1).trans rfl; have hcz13_2 : w12.cell? ⟨gb1020, 2, none⟩ = some (.slice none 0 0) := (blk_cell BK1020.out 2).trans rfl; have hfz13_0 := blk_frozen BK1020.out 0; have hfz13_1 := blk_frozen BK1020.out 1; have hfz13_2 := blk_frozen BK1020.out 2; obtain ⟨Ao14, co14, eo14⟩ := Kd.R_slice HO1027.out; subst eo14))
              refine bodyPost_ret (results_ct rfl _ _ gb1020 27 #[.int .i64 t1023, .int .i64 t1024, .slice Ao14 t1025.length co14] (0, 0) _ rfl (by (with_reducible repeat (first | refine blk_drewN ?_ _ | refine blk_drew ?_ | refine blk_alloc ?_ _)); refine blk_put (cs := #[.int .i64 t1023, .int .i64 t1024, .slice none 0 0]) ?_ 2 _ rfl; (with_reducible repeat (first | refine blk_drewN ?_ _ | refine blk_drew ?_ | refine blk_alloc ?_ _)); refine blk_put (cs := #[.int .i64 t1023, .int .i64 x1021001_1, .slice none 0 0]) ?_ 1 _ rfl; (with_reducible repeat (first | refine blk_drewN ?_ _ | refine blk_drew ?_ | refine blk_alloc ?_ _)); refine blk_put (cs := #[.int .i64 x1021000_1, .int .i64 x1021001_1, .slice none 0 0]) ?_ 0 _ rfl; (with_reducible repeat (first | refine blk_drewN ?_ _ | refine blk_drew ?_ | refine blk_alloc ?_ _)); exact BK1020.out) Try.underlying27 rfl (by kernel_rfl)) rfl ?_
              exact ⟨_, by first | rfl | (simp [errW_none, errW_some] <;> rfl) | (simp [*, errW_none, errW_some] <;> rfl), by (with_reducible repeat (first | apply Kd.R_alloc | apply Kd.R_drewN | apply Kd.R_drew)); exact Kd.R_mono (Kd.R_far (p := ⟨gb1020, 2, none⟩) (Kd.R_far (p := ⟨gb1020, 1, none⟩) (Kd.R_far (p := ⟨gb1020, 0, none⟩) (Kd.R_types HO1027.out BK1020.out (by decide)) (fun _ hk => hk.2) (.int .i64 t1023)) (fun _ hk => hk.2) (.int .i64 t1024)) (fun _ hk => hk.2) (.slice Ao14 t1025.length co14)) (fun _ hk => trivial), by repeat (first | (with_reducible first | exact HB.out | apply below_alloc | apply pw_below_drewN | apply below_drew1 | refine below_set ?_ GE1020.out | refine below_set ?_ GE1022.out) | exact HB.out)⟩
            · rw [if_neg c7] at H
              have c7b0 : (((rd_T27 l0 x10_1).f0) == a1) = false := beq_eq_false_iff_ne.mpr c7
              have c7b1 : (((rd_T27 l0 x10_1).f0) != a1) = true := bne_iff_ne.mpr c7
              have H' := Aside0.mk H
              clear H
              have p1021 : 0 ≤ (x10_1 : Int) := of_decide_eq_true (by first | (with_reducible assumption) | assumption)
              have q1021 : x10_1 < (l0.length : Int) := of_decide_eq_true (by first | (with_reducible assumption) | assumption)
              obtain ⟨ad1021, A1021_2, c1021_2, e1021, hx1021_0, hx1021_1, hx1021_2, hl1021_2, hi1021_2⟩ := at_T27 HR0.out x10_1 p1021 q1021
              cases e1021
              replace hx1021_0 := (HB.out.cell (World.block_lt_of_cell? w _ hx1021_0)).trans hx1021_0
              replace hx1021_1 := (HB.out.cell (World.block_lt_of_cell? w _ hx1021_1)).trans hx1021_1
              replace hx1021_2 := (HB.out.cell (World.block_lt_of_cell? w _ hx1021_2)).trans hx1021_2
              have HR1021_2 := Aside0.mk hi1021_2
              have HC1021_2 := Aside0.mk hl1021_2
              clear hi1021_2 hl1021_2
              replace p1021 := eq_true p1021
              replace q1021 := eq_true q1021
              go_wp2_with (first | ((with_reducible refine gate_dst (N := 7) rfl ?_); refine box_event ?hg (N := 7) ?hd (cs := #[.int .i64 0, .int .i64 0, .slice none 0 0]) (t := 27) ?hr ?_; (case hd => rfl); (case hg => rfl); (case hr => first | (go_simp; done) | (go_simp; rfl)); intro gb1022 hg w15 hbox hb; have n0_ := Aside0.mk (blk_below (g := gb1020) (o := .cells #[.int .i64 x1021000_1, .int .i64 x1021001_1, .slice none 0 0] 27 (0, 0)) (by (with_reducible repeat (first | refine blk_drewN ?_ _ | refine blk_drew ?_ | refine blk_alloc ?_ _)); exact BK1020.out) hb); have n1_ := Aside0.mk (below_step (by repeat (first | (with_reducible first | exact HB.out | apply below_alloc | apply pw_below_drewN | apply below_drew1 | refine below_set ?_ GE1020.out) | exact HB.out)) hb); have n2_ := Aside0.mk (hbox); have n3_ := Aside0.mk ((by rw [hg]; exact (below_size (by repeat (first | (with_reducible first | exact HB.out | apply below_alloc | apply pw_below_drewN | apply below_drew1 | refine below_set ?_ GE1020.out) | exact HB.out))) : w.heap.size ≤ gb1022)); have n4_ := Aside0.mk ((by rw [hg]; exact (below_size (by repeat (first | (with_reducible first | exact HB.out | apply below_alloc | apply pw_below_drewN | apply below_drew1 | refine below_set ?_ GE1020.out) | exact HB.out))) : w.heap.size ≤ gb1022)); have n5_ := Aside0.mk ((by rw [hg]; exact Nat.ne_of_lt (blk_lt (g := gb1020) (o := .cells #[.int .i64 x1021000_1, .int .i64 x1021001_1, .slice none 0 0] 27 (0, 0)) (by (with_reducible repeat (first | refine blk_drewN ?_ _ | refine blk_drew ?_ | refine blk_alloc ?_ _)); exact BK1020.out)) : gb1020 ≠ gb1022)); have n6_ := Aside0.mk ((by rw [hg]; exact Nat.ne_of_gt (blk_lt (g := gb1020) (o := .cells #[.int .i64 x1021000_1, .int .i64 x1021001_1, .slice none 0 0] 27 (0, 0)) (by (with_reducible repeat (first | refine blk_drewN ?_ _ | refine blk_drew ?_ | refine blk_alloc ?_ _)); exact BK1020.out)) : gb1022 ≠ gb1020)); clear BK1020; clear HB; have BK1020 := n0_; have HB := n1_; have BK1022 := n2_; have GW1022 := n3_; have GE1022 := n4_; have NB1020_1022 := n5_; have NB1022_1020 := n6_; clear n0_ n1_ n2_ n3_ n4_ n5_ n6_; clear hb hbox hg; have hnb16 := NB1022_1020.out; have hnc16 := NB1020_1022.out; have hcz17_0 : w15.cell? ⟨gb1022, 0, none⟩ = some (.int .i64 0) := (blk_cell BK1022.out 0).trans rfl; have hcz17_1 : w15.cell? ⟨gb1022, 1, none⟩ = some (.int .i64 0) := (blk_cell BK1022.out 1).trans rfl; have hcz17_2 : w15.cell? ⟨gb1022, 2, none⟩ = some (.slice none 0 0) := (blk_cell BK1022.out 2).trans rfl; have hfz17_0 := blk_frozen BK1022.out 0; have hfz17_1 := blk_frozen BK1022.out 1; have hfz17_2 := blk_frozen BK1022.out 2))
              go_roundg k1
              case measure => have := HK1.out; omega
              case rel => exact ⟨(wrap64 (x10_1 + 1)), (x1021000_1), (x1021001_1), (by first | rfl | (simp; done) | (simp [*]; done)), H', ⟨by have := HK1.out; omega⟩, ⟨by (with_reducible repeat (first | refine blk_drewN ?_ _ | refine blk_drew ?_ | refine blk_alloc ?_ _)); refine blk_far ?_ NB1020_1022.out _; (with_reducible repeat (first | refine blk_drewN ?_ _ | refine blk_drew ?_ | refine blk_alloc ?_ _)); refine blk_far ?_ NB1020_1022.out _; (with_reducible repeat (first | refine blk_drewN ?_ _ | refine blk_drew ?_ | refine blk_alloc ?_ _)); refine blk_far ?_ NB1020_1022.out _; (with_reducible repeat (first | refine blk_drewN ?_ _ | refine blk_drew ?_ | refine blk_alloc ?_ _)); exact BK1020.out⟩, ⟨by repeat (first | (with_reducible first | exact HB.out | apply below_alloc | apply pw_below_drewN | apply below_drew1 | refine below_set ?_ GE1020.out | refine below_set ?_ GE1022.out) | exact HB.out)⟩⟩
          · rw [if_neg c6] at H
            exact absurd H (by simp)
        · rw [if_neg c5] at H
          exact absurd H (by simp)
      · rw [if_neg c4] at H
        have c4b0 : decide (x10_1 < (l0.length : Int)) = false := decide_eq_false c4
        clear c4
        simp only [Option.some.injEq, Prod.mk.injEq] at H
        obtain ⟨rfl, rfl, rfl, rfl⟩ := H
        have hcz18_0 : wr.cell? ⟨gb1020, 0, none⟩ = some (.int .i64 x1021000_1) := (blk_cell BK1020.out 0).trans rfl
        have hcz18_1 : wr.cell? ⟨gb1020, 1, none⟩ = some (.int .i64 x1021001_1) := (blk_cell BK1020.out 1).trans rfl
        have hcz18_2 : wr.cell? ⟨gb1020, 2, none⟩ = some (.slice none 0 0) := (blk_cell BK1020.out 2).trans rfl
        have hfz18_0 := blk_frozen BK1020.out 0
        have hfz18_1 := blk_frozen BK1020.out 1
        have hfz18_2 := blk_frozen BK1020.out 2
        go_wp2
        refine bodyPost_ret (results_ct rfl _ _ gb1020 27 #[.int .i64 0, .int .i64 0, .slice none 0 0] (0, 0) _ rfl (by (with_reducible repeat (first | refine blk_drewN ?_ _ | refine blk_drew ?_ | refine blk_alloc ?_ _)); refine blk_put (cs := #[.int .i64 0, .int .i64 0, .slice none 0 0]) ?_ 2 _ rfl; (with_reducible repeat (first | refine blk_drewN ?_ _ | refine blk_drew ?_ | refine blk_alloc ?_ _)); refine blk_put (cs := #[.int .i64 0, .int .i64 x1021001_1, .slice none 0 0]) ?_ 1 _ rfl; (with_reducible repeat (first | refine blk_drewN ?_ _ | refine blk_drew ?_ | refine blk_alloc ?_ _)); refine blk_put (cs := #[.int .i64 x1021000_1, .int .i64 x1021001_1, .slice none 0 0]) ?_ 0 _ rfl; (with_reducible repeat (first | refine blk_drewN ?_ _ | refine blk_drew ?_ | refine blk_alloc ?_ _)); exact BK1020.out) Try.underlying27 rfl (by kernel_rfl)) rfl ?_
        exact ⟨_, by first | rfl | (simp [errW_none, errW_some] <;> rfl) | (simp [*, errW_none, errW_some] <;> rfl), by first | exact Kd.R_nil _ _ _ _ _ | exact Kd.N_nil _ _ _ _ _ | exact Kd.V_nil _ _ _ _ _ | exact Kd.Q_nil _ _ _ _ _ | exact Kd.S_nil _ _ _ _ _, by repeat (first | (with_reducible first | exact HB.out | apply below_alloc | apply pw_below_drewN | apply below_drew1 | refine below_set ?_ GE1020.out) | exact HB.out)⟩

end Go.Proofs.Ytjkjhaiemephdaa.Q
