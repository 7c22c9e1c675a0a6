import Derived.Test.YthjmdiggglkeaaaXFnNetsQimplless
import Derived.Test.YthjmdiggglkeaaaXFnNetsQimplwith
/- A Go function as a Lean function, and its contract: for every input the Go code comes to what the Lean function tells. -/


namespace Go.Proofs.Ythjmdiggglkeaaa.Q
open Go.RowKit Go.Proofs.YthjmdiggglkeaaaW.PrintWords Go.Proofs.YthjmdiggglkeaaaW.PrintLast Go.Proofs.YthjmdiggglkeaaaW.PrintMore
attribute [local go_sem] max2_int min2_int max_two min_two max_three min_three max_four min_four   -- for this text's walks alone
set_option linter.unusedVariables false
set_option linter.unusedSimpArgs false

/-! ### impl_AreasOf: function 61 -/
def impl_AreasOf.l0 : Nat → Int → List Int → List (S93) → Int → Int → Option (List Int)
 | 0, _, _, _, _, _ => none
 | k + 1, x1, x5, x9, x10, x11 => if x11 < x10 then (if 0 ≤ x11 then (if x11 < (x9.length : Int) then (if ((rd_T93 x9 x11).f0) = x1 then ((impl_with.f k x5 ((rd_T93 x9 x11).f3)).bind fun t296 => (impl_AreasOf.l0 k x1 t296 x9 x10 (wrap64 (x11 + 1)))) else (if ((rd_T93 x9 x11).f1) = x1 then ((impl_with.f k x5 ((rd_T93 x9 x11).f3)).bind fun t299 => (impl_AreasOf.l0 k x1 t299 x9 x10 (wrap64 (x11 + 1)))) else (impl_AreasOf.l0 k x1 x5 x9 x10 (wrap64 (x11 + 1))))) else (none)) else (none)) else (some x5)
def impl_AreasOf.f (k : Nat) (a0_0 : Int) (l0_1 : List (S93)) (l0_2 : List (S102)) (a1 : Int) : Option (List Int) := impl_AreasOf.l0 k a1 ([] : List Int) l0_1 (l0_1.length : Int) 0
theorem impl_AreasOf.mono_l : ∀ k, (∀ y0 y1 y2 y3 y4, LeO (impl_AreasOf.l0 k y0 y1 y2 y3 y4) (impl_AreasOf.l0 (k + 1) y0 y1 y2 y3 y4))
 | 0 => fun _ _ _ _ _ r h => by simp [impl_AreasOf.l0] at h
 | k + 1 => by
  have ih0 := impl_AreasOf.mono_l k
  ·intro y0 y1 y2 y3 y4
   unfold impl_AreasOf.l0
   repeat' first
   | (with_reducible exact ih0 _ _ _ _ _)
   | (with_reducible exact impl_with.mono _ _ _)
   | (with_reducible exact LeO.refl _)
   | (with_reducible exact LeO.none _)
   | (with_reducible refine LeO.ite ?_ ?_)
   | (with_reducible refine LeO.bind ?_ (fun _ => ?_))
   | exact ih0 _ _ _ _ _
   | exact impl_with.mono _ _ _
   | exact LeO.none _
   | refine LeO.ite ?_ ?_
   | refine LeO.bind ?_ (fun _ => ?_)
theorem impl_AreasOf.mono : ∀ a0 a1 a2 a3 k, LeO (impl_AreasOf.f k a0 a1 a2 a3) (impl_AreasOf.f (k + 1) a0 a1 a2 a3) := by
 intro a0 a1 a2 a3 k
 have ih0 := impl_AreasOf.mono_l k
 unfold impl_AreasOf.f
 repeat' first
   | (with_reducible exact ih0 _ _ _ _ _)
   | (with_reducible exact impl_with.mono _ _ _)
   | (with_reducible exact LeO.refl _)
   | (with_reducible exact LeO.none _)
   | (with_reducible refine LeO.ite ?_ ?_)
   | (with_reducible refine LeO.bind ?_ (fun _ => ?_))
   | exact ih0 _ _ _ _ _
   | exact impl_with.mono _ _ _
   | exact LeO.none _
   | refine LeO.ite ?_ ?_
   | refine LeO.bind ?_ (fun _ => ?_)
set_option maxHeartbeats 8000000 in
set_option maxRecDepth 100000 in
theorem impl_AreasOf.calls (k : Nat) (a0_0 : Int) (A0_1 : Option Addr) (c0_1 : Nat) (l0_1 : List (S93)) (A0_2 : Option Addr) (c0_2 : Nat) (l0_2 : List (S102)) (a1 : Int) (r : List Int) (w : World) (hr0_1 : Kd.C k93 w A0_1 l0_1.length l0_1) (hc0_1 : l0_1.length ≤ c0_1) (hr0_2 : Kd.C k102 w A0_2 l0_2.length l0_2) (hc0_2 : l0_2.length ≤ c0_2) (h : impl_AreasOf.f k a0_0 l0_1 l0_2 a1 = some r) :
  Calls Try.prog 61 #[.agg #[.int .i64 a0_0, .slice A0_1 l0_1.length c0_1, .slice A0_2 l0_2.length c0_2], .int .i64 a1] w fun e w' => ∃ v0_ : Value, e = .returned (v0_) ∧ Kd.R (Kd.int .i64) 3 w' w.heap.size (fun _ => True) v0_ r ∧ Below w.heap.size w w' := by
 have hu31 := Try.underlying31
 have hu93 := Try.underlying93
 have HR0_1 := Aside0.mk hr0_1
 have HC0_1 := Aside0.mk hc0_1
 clear hr0_1 hc0_1
 have HR0_2 := Aside0.mk hr0_2
 have HC0_2 := Aside0.mk hc0_2
 clear hr0_2 hc0_2
 have HB := Aside0.mk (Below.refl w.heap.size w)
 have H : (impl_AreasOf.l0 k a1 ([] : List Int) l0_1 (l0_1.length : Int) 0) = some r := h
 clear h
 have H' := Aside0.mk H
 clear H
 go_enter Try.func61, Try.ntmps61
 go_wp2_with (first | ((with_reducible refine gate_dst (N := 2) rfl ?_); refine box_q 2 #[.int .i64 a0_0, .slice A0_1 l0_1.length c0_1, .slice A0_2 l0_2.length c0_2] 31 ?_; intro gb293 hg w3 hbox hb; have BK293 := Aside0.mk (hbox); have GW293 := Aside0.mk ((by rw [hg]; exact (below_size (bw_q HB)) : w.heap.size ≤ gb293)); have GE293 := Aside0.mk ((by rw [hg]; exact (below_size (bw_q HB)) : w.heap.size ≤ gb293)); replace HB := Aside0.mk (below_step (bw_q HB) hb); clear hb hbox hg; have hcz4_0 : w3.cell? ⟨gb293, 0, none⟩ = some (.int .i64 a0_0) := (blk_cell BK293.out 0).trans rfl; have hcz4_1 : w3.cell? ⟨gb293, 1, none⟩ = some (.slice A0_1 l0_1.length c0_1) := (blk_cell BK293.out 1).trans rfl; have hcz4_2 : w3.cell? ⟨gb293, 2, none⟩ = some (.slice A0_2 l0_2.length c0_2) := (blk_cell BK293.out 2).trans rfl; have hfz4_0 := blk_frozen BK293.out 0; have hfz4_1 := blk_frozen BK293.out 1; have hfz4_2 := blk_frozen BK293.out 2))
 go_loopg [5, 11] k (fun kq v5 v11 w' => ∃ (x5_1 : List Int) (x11_1 : Int), v11 = .int .i64 x11_1 ∧ Aside0 (impl_AreasOf.l0 kq a1 x5_1 l0_1 (l0_1.length : Int) x11_1 = some r) ∧ Aside0 (kq ≤ k) ∧ Aside0 (Kd.R (Kd.int .i64) 3 w' w.heap.size (fun _ => True) v5 x5_1) ∧ Aside0 (w'.heap[gb293]? = some (.cells #[.int .i64 a0_0, (.slice A0_1 l0_1.length c0_1), (.slice A0_2 l0_2.length c0_2)] 31 (0, 0))) ∧ Aside0 (Below w.heap.size w w'))
 case atStart => exact ⟨(([] : List Int)), (0), (by first | rfl | (simp; done) | (simp [*]; done)), H', ⟨Nat.le_refl _⟩, ⟨by first | exact Kd.R_nil _ _ _ _ _ | exact Kd.N_nil _ _ _ _ _ | exact Kd.V_nil _ _ _ _ _ | exact Kd.Q_nil _ _ _ _ _ | exact Kd.S_nil _ _ _ _ _⟩, ⟨by refine bz_ ?_; exact BK293.out⟩, ⟨bw_q HB⟩⟩
 case round =>
  clear H'
  try clear p2
  try clear hcz4_0
  try clear hcz4_1
  try clear hcz4_2
  try clear hfz4_0
  try clear hfz4_1
  try clear hfz4_2
  obtain ⟨x5_1, x11_1, rfl, HA, HK1, HO_5, BK293, HB⟩ := hrel
  cases gk with
  | zero => exact absurd HA.out (by simp [impl_AreasOf.l0])
  | succ k1 =>
   have H := HA.out
   clear HA
   simp only [impl_AreasOf.l0] at H
   by_cases c5 : x11_1 < (l0_1.length : Int)
   ·rw [if_pos c5] at H
    have c5b0 : decide (x11_1 < (l0_1.length : Int)) = true := decide_eq_true c5
    clear c5
    by_cases c6 : 0 ≤ x11_1
    ·rw [if_pos c6] at H
     have c6b0 : decide (0 ≤ x11_1) = true := decide_eq_true c6
     clear c6
     by_cases c7 : x11_1 < (l0_1.length : Int)
     ·rw [if_pos c7] at H
      have c7b0 : decide (x11_1 < (l0_1.length : Int)) = true := decide_eq_true c7
      clear c7
      by_cases c8 : ((rd_T93 l0_1 x11_1).f0) = a1
      ·rw [if_pos c8] at H
       have c8b0 : (((rd_T93 l0_1 x11_1).f0) == a1) = true := beq_iff_eq.mpr c8
       have c8b1 : (((rd_T93 l0_1 x11_1).f0) != a1) = false := bne_eq_false_iff_eq.mpr c8
       clear c8
       have HC9 := Aside0.mk H
       clear H
       have p294 : 0 ≤ (x11_1 : Int) := of_decide_eq_true as_q
       have q294 : x11_1 < (l0_1.length : Int) := of_decide_eq_true as_q
       obtain ⟨ad294, e294, hx294_0, hx294_1, hx294_2, hx294_3⟩ := at_T93 HR0_1.out x11_1 p294 q294
       cases e294
       replace hx294_0 := (HB.out.cell (World.block_lt_of_cell? w _ hx294_0)).trans hx294_0
       replace hx294_1 := (HB.out.cell (World.block_lt_of_cell? w _ hx294_1)).trans hx294_1
       replace hx294_2 := (HB.out.cell (World.block_lt_of_cell? w _ hx294_2)).trans hx294_2
       replace hx294_3 := (HB.out.cell (World.block_lt_of_cell? w _ hx294_3)).trans hx294_3
       replace p294 := eq_true p294
       replace q294 := eq_true q294
       go_upto_if 24 with (first | ((with_reducible refine gate_dst (N := 7) rfl ?_); refine box_q 7 #[.int .i64 0, .int .i64 0, .int .i64 0, .int .i64 0] 93 ?_; intro gb295 hg w10 hbox hb; replace HO_5 := Aside0.mk (Kd.R_below (kR_q HO_5) hb); have BK295 := Aside0.mk (hbox); have GW295 := Aside0.mk ((by rw [hg]; exact (below_size (bw_q HB)) : w.heap.size ≤ gb295)); have GE295 := Aside0.mk ((by rw [hg]; exact (below_size (bw_q HB)) : w.heap.size ≤ gb295)); replace HB := Aside0.mk (below_step (bw_q HB) hb); have NB293_295 := Aside0.mk ((by rw [hg]; exact Nat.ne_of_lt (blk_lt (g := gb293) (o := .cells #[.int .i64 a0_0, .slice (some ad294) l0_1.length c0_1, .slice A0_2 l0_2.length c0_2] 31 (0, 0)) (bk_q BK293)) : gb293 ≠ gb295)); have NB295_293 := Aside0.mk ((by rw [hg]; exact Nat.ne_of_gt (blk_lt (g := gb293) (o := .cells #[.int .i64 a0_0, .slice (some ad294) l0_1.length c0_1, .slice A0_2 l0_2.length c0_2] 31 (0, 0)) (bk_q BK293)) : gb295 ≠ gb293)); replace BK293 := Aside0.mk (blk_below (g := gb293) (bk_q BK293) hb); clear hb hbox hg; have hnb11 := NB295_293.out; have hnc11 := NB293_295.out; have hcz12_0 : w10.cell? ⟨gb295, 0, none⟩ = some (.int .i64 0) := (blk_cell BK295.out 0).trans rfl; have hcz12_1 : w10.cell? ⟨gb295, 1, none⟩ = some (.int .i64 0) := (blk_cell BK295.out 1).trans rfl; have hcz12_2 : w10.cell? ⟨gb295, 2, none⟩ = some (.int .i64 0) := (blk_cell BK295.out 2).trans rfl; have hcz12_3 : w10.cell? ⟨gb295, 3, none⟩ = some (.int .i64 0) := (blk_cell BK295.out 3).trans rfl; have hfz12_0 := blk_frozen BK295.out 0; have hfz12_1 := blk_frozen BK295.out 1; have hfz12_2 := blk_frozen BK295.out 2; have hfz12_3 := blk_frozen BK295.out 3))
       have n0_ : Aside0 (Kd.R (Kd.int .i64) 3 ((((w10.setCell ⟨gb295, 0, none⟩ (.int .i64 ((rd_T93 l0_1 x11_1).f0))).setCell ⟨gb295, 1, none⟩ (.int .i64 ((rd_T93 l0_1 x11_1).f1))).setCell ⟨gb295, 2, none⟩ (.int .i64 ((rd_T93 l0_1 x11_1).f2))).setCell ⟨gb295, 3, none⟩ (.int .i64 ((rd_T93 l0_1 x11_1).f3))) w.heap.size (fun _ => True) u5 x5_1) := ⟨by (with_reducible repeat (first | apply Kd.R_alloc | apply Kd.R_drewN | apply Kd.R_drew)); exact Kd.R_mono (Kd.R_far (p := ⟨gb295, 3, none⟩) (Kd.R_far (p := ⟨gb295, 2, none⟩) (Kd.R_far (p := ⟨gb295, 1, none⟩) (Kd.R_far (p := ⟨gb295, 0, none⟩) (Kd.R_types HO_5.out BK295.out (by decide)) (fun _ hk => hk.2) (.int .i64 ((rd_T93 l0_1 x11_1).f0))) (fun _ hk => hk.2) (.int .i64 ((rd_T93 l0_1 x11_1).f1))) (fun _ hk => hk.2) (.int .i64 ((rd_T93 l0_1 x11_1).f2))) (fun _ hk => hk.2) (.int .i64 ((rd_T93 l0_1 x11_1).f3))) (fun _ hk => trivial)⟩
       have n1_ : Aside0 (((((w10.setCell ⟨gb295, 0, none⟩ (.int .i64 ((rd_T93 l0_1 x11_1).f0))).setCell ⟨gb295, 1, none⟩ (.int .i64 ((rd_T93 l0_1 x11_1).f1))).setCell ⟨gb295, 2, none⟩ (.int .i64 ((rd_T93 l0_1 x11_1).f2))).setCell ⟨gb295, 3, none⟩ (.int .i64 ((rd_T93 l0_1 x11_1).f3))).heap[gb293]? = some (.cells #[.int .i64 a0_0, .slice (some ad294) l0_1.length c0_1, .slice A0_2 l0_2.length c0_2] 31 (0, 0))) := ⟨by refine bz_ ?_; refine blk_far ?_ NB293_295.out _; refine bz_ ?_; refine blk_far ?_ NB293_295.out _; refine bz_ ?_; refine blk_far ?_ NB293_295.out _; refine bz_ ?_; refine blk_far ?_ NB293_295.out _; refine bz_ ?_; exact BK293.out⟩
       have n2_ : Aside0 (((((w10.setCell ⟨gb295, 0, none⟩ (.int .i64 ((rd_T93 l0_1 x11_1).f0))).setCell ⟨gb295, 1, none⟩ (.int .i64 ((rd_T93 l0_1 x11_1).f1))).setCell ⟨gb295, 2, none⟩ (.int .i64 ((rd_T93 l0_1 x11_1).f2))).setCell ⟨gb295, 3, none⟩ (.int .i64 ((rd_T93 l0_1 x11_1).f3))).heap[gb295]? = some (.cells #[.int .i64 ((rd_T93 l0_1 x11_1).f0), .int .i64 ((rd_T93 l0_1 x11_1).f1), .int .i64 ((rd_T93 l0_1 x11_1).f2), .int .i64 ((rd_T93 l0_1 x11_1).f3)] 93 (0, 0))) := ⟨by refine bz_ ?_; refine blk_put (cs := #[.int .i64 ((rd_T93 l0_1 x11_1).f0), .int .i64 ((rd_T93 l0_1 x11_1).f1), .int .i64 ((rd_T93 l0_1 x11_1).f2), .int .i64 0]) ?_ 3 _ rfl; refine bz_ ?_; refine blk_put (cs := #[.int .i64 ((rd_T93 l0_1 x11_1).f0), .int .i64 ((rd_T93 l0_1 x11_1).f1), .int .i64 0, .int .i64 0]) ?_ 2 _ rfl; refine bz_ ?_; refine blk_put (cs := #[.int .i64 ((rd_T93 l0_1 x11_1).f0), .int .i64 0, .int .i64 0, .int .i64 0]) ?_ 1 _ rfl; refine bz_ ?_; refine blk_put (cs := #[.int .i64 0, .int .i64 0, .int .i64 0, .int .i64 0]) ?_ 0 _ rfl; refine bz_ ?_; exact BK295.out⟩
       have n3_ : Aside0 (Below w.heap.size w ((((w10.setCell ⟨gb295, 0, none⟩ (.int .i64 ((rd_T93 l0_1 x11_1).f0))).setCell ⟨gb295, 1, none⟩ (.int .i64 ((rd_T93 l0_1 x11_1).f1))).setCell ⟨gb295, 2, none⟩ (.int .i64 ((rd_T93 l0_1 x11_1).f2))).setCell ⟨gb295, 3, none⟩ (.int .i64 ((rd_T93 l0_1 x11_1).f3)))) := ⟨bw_q HB⟩
       (try clear HO_5)
       (try clear BK293)
       (try clear BK295)
       (try clear HB)
       generalize ((((w10.setCell ⟨gb295, 0, none⟩ (.int .i64 ((rd_T93 l0_1 x11_1).f0))).setCell ⟨gb295, 1, none⟩ (.int .i64 ((rd_T93 l0_1 x11_1).f1))).setCell ⟨gb295, 2, none⟩ (.int .i64 ((rd_T93 l0_1 x11_1).f2))).setCell ⟨gb295, 3, none⟩ (.int .i64 ((rd_T93 l0_1 x11_1).f3))) = w13 at n0_ n1_ n2_ n3_ ⊢
       have HO_5 := n0_
       have BK293 := n1_
       have BK295 := n2_
       have HB := n3_
       clear n0_ n1_ n2_ n3_
       (try clear hx294_0); (try clear hx294_1); (try clear hx294_2); (try clear hx294_3)
       have H := HC9.out
       clear HC9
       replace H := Option.bind_eq_some_iff.mp H
       obtain ⟨t296, A140, H⟩ := H
       replace H : (impl_AreasOf.l0 k1 a1 t296 l0_1 (l0_1.length : Int) (wrap64 (x11_1 + 1))) = some r := H
       have A14 := Aside0.mk A140
       clear A140
       have H' := Aside0.mk H
       clear H
       have hnb15 := NB295_293.out
       have hnc15 := NB293_295.out
       obtain ⟨hcz16_0, hcz16_1, hcz16_2, hcz16_3⟩ := cz4_ BK295
       obtain ⟨hfz16_0, hfz16_1, hfz16_2, hfz16_3⟩ := fz4_ BK295
       obtain ⟨Ao17, co17, eo17⟩ := Kd.R_slice HO_5.out
       subst eo17
       go_wp2_with (first | ((with_reducible refine gate_callee (f := 122) rfl ?_); refine goesL_ (some 28) rfl rfl Try.func122 (by kernel_rfl) rfl #[.slice Ao17 x5_1.length co17, .int .i64 ((rd_T93 l0_1 x11_1).f3)] rfl mp_q ?_; (with_reducible refine (impl_with.calls k1 _ _ x5_1 ((rd_T93 l0_1 x11_1).f3) t296 _ ?side1 ?side2 A14.out).mono ?_); (case side1 => repeat (first | exact (Kd.R_reads' HO_5.out).2.2 | (with_reducible refine Kd.C_alloc ?_ _) | (with_reducible refine Kd.C_drewN ?_ _) | (with_reducible refine Kd.C_drew ?_))); (case side2 => exact (Kd.R_reads' HO_5.out).2.1); rintro e w18 ⟨v297, rfl, ho0, hb⟩; refine ⟨_, rfl, ?_⟩; have HO298 : Aside0 (Kd.R (Kd.int .i64) 3 w18 w.heap.size (fun _ => True) v297 t296) := Aside0.mk (by (rcases ho0 with h_ | ⟨hv_, hr_⟩); (exact Kd.R_mono (Kd.R_lower h_ (below_size (bw_q HB))) (fun _ _ => trivial)); (rw [hv_, hr_]; exact Kd.R_mono (Kd.R_below (kR_q HO_5) hb) (fun _ _ => trivial))); replace HO_5 := Aside0.mk (Kd.R_below (kR_q HO_5) hb); replace BK293 := Aside0.mk (blk_below (g := gb293) (bk_q BK293) hb); replace BK295 := Aside0.mk (blk_below (g := gb295) (bk_q BK295) hb); replace HB := Aside0.mk (below_step (bw_q HB) hb); (try clear hb); (try clear hb2); (try clear hk); (try clear hi); (try clear ho0)))
       go_roundg k1
       case measure => have := HK1.out; omega
       case rel => exact ⟨(t296), (wrap64 (x11_1 + 1)), (by first | rfl | (simp; done) | (simp [*]; done)), H', ⟨by have := HK1.out; omega⟩, ⟨by (with_reducible repeat (first | apply Kd.R_alloc | apply Kd.R_drewN | apply Kd.R_drew)); exact Kd.R_mono HO298.out (fun _ hk => trivial)⟩, ⟨by refine bz_ ?_; exact BK293.out⟩, ⟨bw_q HB⟩⟩
      ·rw [if_neg c8] at H
       have c8b0 : (((rd_T93 l0_1 x11_1).f0) == a1) = false := beq_eq_false_iff_ne.mpr c8
       have c8b1 : (((rd_T93 l0_1 x11_1).f0) != a1) = true := bne_iff_ne.mpr c8
       have HC19 := Aside0.mk H
       clear H
       have p294 : 0 ≤ (x11_1 : Int) := of_decide_eq_true as_q
       have q294 : x11_1 < (l0_1.length : Int) := of_decide_eq_true as_q
       obtain ⟨ad294, e294, hx294_0, hx294_1, hx294_2, hx294_3⟩ := at_T93 HR0_1.out x11_1 p294 q294
       cases e294
       replace hx294_0 := (HB.out.cell (World.block_lt_of_cell? w _ hx294_0)).trans hx294_0
       replace hx294_1 := (HB.out.cell (World.block_lt_of_cell? w _ hx294_1)).trans hx294_1
       replace hx294_2 := (HB.out.cell (World.block_lt_of_cell? w _ hx294_2)).trans hx294_2
       replace hx294_3 := (HB.out.cell (World.block_lt_of_cell? w _ hx294_3)).trans hx294_3
       replace p294 := eq_true p294
       replace q294 := eq_true q294
       go_upto_if 24 with (first | ((with_reducible refine gate_dst (N := 7) rfl ?_); refine box_q 7 #[.int .i64 0, .int .i64 0, .int .i64 0, .int .i64 0] 93 ?_; intro gb295 hg w20 hbox hb; replace HO_5 := Aside0.mk (Kd.R_below (kR_q HO_5) hb); have BK295 := Aside0.mk (hbox); have GW295 := Aside0.mk ((by rw [hg]; exact (below_size (bw_q HB)) : w.heap.size ≤ gb295)); have GE295 := Aside0.mk ((by rw [hg]; exact (below_size (bw_q HB)) : w.heap.size ≤ gb295)); replace HB := Aside0.mk (below_step (bw_q HB) hb); have NB293_295 := Aside0.mk ((by rw [hg]; exact Nat.ne_of_lt (blk_lt (g := gb293) (o := .cells #[.int .i64 a0_0, .slice (some ad294) l0_1.length c0_1, .slice A0_2 l0_2.length c0_2] 31 (0, 0)) (bk_q BK293)) : gb293 ≠ gb295)); have NB295_293 := Aside0.mk ((by rw [hg]; exact Nat.ne_of_gt (blk_lt (g := gb293) (o := .cells #[.int .i64 a0_0, .slice (some ad294) l0_1.length c0_1, .slice A0_2 l0_2.length c0_2] 31 (0, 0)) (bk_q BK293)) : gb295 ≠ gb293)); replace BK293 := Aside0.mk (blk_below (g := gb293) (bk_q BK293) hb); clear hb hbox hg; have hnb21 := NB295_293.out; have hnc21 := NB293_295.out; have hcz22_0 : w20.cell? ⟨gb295, 0, none⟩ = some (.int .i64 0) := (blk_cell BK295.out 0).trans rfl; have hcz22_1 : w20.cell? ⟨gb295, 1, none⟩ = some (.int .i64 0) := (blk_cell BK295.out 1).trans rfl; have hcz22_2 : w20.cell? ⟨gb295, 2, none⟩ = some (.int .i64 0) := (blk_cell BK295.out 2).trans rfl; have hcz22_3 : w20.cell? ⟨gb295, 3, none⟩ = some (.int .i64 0) := (blk_cell BK295.out 3).trans rfl; have hfz22_0 := blk_frozen BK295.out 0; have hfz22_1 := blk_frozen BK295.out 1; have hfz22_2 := blk_frozen BK295.out 2; have hfz22_3 := blk_frozen BK295.out 3))
       have n0_ : Aside0 (Kd.R (Kd.int .i64) 3 ((((w20.setCell ⟨gb295, 0, none⟩ (.int .i64 ((rd_T93 l0_1 x11_1).f0))).setCell ⟨gb295, 1, none⟩ (.int .i64 ((rd_T93 l0_1 x11_1).f1))).setCell ⟨gb295, 2, none⟩ (.int .i64 ((rd_T93 l0_1 x11_1).f2))).setCell ⟨gb295, 3, none⟩ (.int .i64 ((rd_T93 l0_1 x11_1).f3))) w.heap.size (fun _ => True) u5 x5_1) := ⟨by (with_reducible repeat (first | apply Kd.R_alloc | apply Kd.R_drewN | apply Kd.R_drew)); exact Kd.R_mono (Kd.R_far (p := ⟨gb295, 3, none⟩) (Kd.R_far (p := ⟨gb295, 2, none⟩) (Kd.R_far (p := ⟨gb295, 1, none⟩) (Kd.R_far (p := ⟨gb295, 0, none⟩) (Kd.R_types HO_5.out BK295.out (by decide)) (fun _ hk => hk.2) (.int .i64 ((rd_T93 l0_1 x11_1).f0))) (fun _ hk => hk.2) (.int .i64 ((rd_T93 l0_1 x11_1).f1))) (fun _ hk => hk.2) (.int .i64 ((rd_T93 l0_1 x11_1).f2))) (fun _ hk => hk.2) (.int .i64 ((rd_T93 l0_1 x11_1).f3))) (fun _ hk => trivial)⟩
       have n1_ : Aside0 (((((w20.setCell ⟨gb295, 0, none⟩ (.int .i64 ((rd_T93 l0_1 x11_1).f0))).setCell ⟨gb295, 1, none⟩ (.int .i64 ((rd_T93 l0_1 x11_1).f1))).setCell ⟨gb295, 2, none⟩ (.int .i64 ((rd_T93 l0_1 x11_1).f2))).setCell ⟨gb295, 3, none⟩ (.int .i64 ((rd_T93 l0_1 x11_1).f3))).heap[gb293]? = some (.cells #[.int .i64 a0_0, .slice (some ad294) l0_1.length c0_1, .slice A0_2 l0_2.length c0_2] 31 (0, 0))) := ⟨by refine bz_ ?_; refine blk_far ?_ NB293_295.out _; refine bz_ ?_; refine blk_far ?_ NB293_295.out _; refine bz_ ?_; refine blk_far ?_ NB293_295.out _; refine bz_ ?_; refine blk_far ?_ NB293_295.out _; refine bz_ ?_; exact BK293.out⟩
       have n2_ : Aside0 (((((w20.setCell ⟨gb295, 0, none⟩ (.int .i64 ((rd_T93 l0_1 x11_1).f0))).setCell ⟨gb295, 1, none⟩ (.int .i64 ((rd_T93 l0_1 x11_1).f1))).setCell ⟨gb295, 2, none⟩ (.int .i64 ((rd_T93 l0_1 x11_1).f2))).setCell ⟨gb295, 3, none⟩ (.int .i64 ((rd_T93 l0_1 x11_1).f3))).heap[gb295]? = some (.cells #[.int .i64 ((rd_T93 l0_1 x11_1).f0), .int .i64 ((rd_T93 l0_1 x11_1).f1), .int .i64 ((rd_T93 l0_1 x11_1).f2), .int .i64 ((rd_T93 l0_1 x11_1).f3)] 93 (0, 0))) := ⟨by refine bz_ ?_; refine blk_put (cs := #[.int .i64 ((rd_T93 l0_1 x11_1).f0), .int .i64 ((rd_T93 l0_1 x11_1).f1), .int .i64 ((rd_T93 l0_1 x11_1).f2), .int .i64 0]) ?_ 3 _ rfl; refine bz_ ?_; refine blk_put (cs := #[.int .i64 ((rd_T93 l0_1 x11_1).f0), .int .i64 ((rd_T93 l0_1 x11_1).f1), .int .i64 0, .int .i64 0]) ?_ 2 _ rfl; refine bz_ ?_; refine blk_put (cs := #[.int .i64 ((rd_T93 l0_1 x11_1).f0), .int .i64 0, .int .i64 0, .int .i64 0]) ?_ 1 _ rfl; refine bz_ ?_; refine blk_put (cs := #[.int .i64 0, .int .i64 0, .int .i64 0, .int .i64 0]) ?_ 0 _ rfl; refine bz_ ?_; exact BK295.out⟩
       have n3_ : Aside0 (Below w.heap.size w ((((w20.setCell ⟨gb295, 0, none⟩ (.int .i64 ((rd_T93 l0_1 x11_1).f0))).setCell ⟨gb295, 1, none⟩ (.int .i64 ((rd_T93 l0_1 x11_1).f1))).setCell ⟨gb295, 2, none⟩ (.int .i64 ((rd_T93 l0_1 x11_1).f2))).setCell ⟨gb295, 3, none⟩ (.int .i64 ((rd_T93 l0_1 x11_1).f3)))) := ⟨bw_q HB⟩
       (try clear HO_5)
       (try clear BK293)
       (try clear BK295)
       (try clear HB)
       generalize ((((w20.setCell ⟨gb295, 0, none⟩ (.int .i64 ((rd_T93 l0_1 x11_1).f0))).setCell ⟨gb295, 1, none⟩ (.int .i64 ((rd_T93 l0_1 x11_1).f1))).setCell ⟨gb295, 2, none⟩ (.int .i64 ((rd_T93 l0_1 x11_1).f2))).setCell ⟨gb295, 3, none⟩ (.int .i64 ((rd_T93 l0_1 x11_1).f3))) = w23 at n0_ n1_ n2_ n3_ ⊢
       have HO_5 := n0_
       have BK293 := n1_
       have BK295 := n2_
       have HB := n3_
       clear n0_ n1_ n2_ n3_
       (try clear hx294_0); (try clear hx294_1); (try clear hx294_2); (try clear hx294_3)
       have H := HC19.out
       clear HC19
       by_cases c24 : ((rd_T93 l0_1 x11_1).f1) = a1
       ·rw [if_pos c24] at H
        have c24b0 : (((rd_T93 l0_1 x11_1).f1) == a1) = true := beq_iff_eq.mpr c24
        have c24b1 : (((rd_T93 l0_1 x11_1).f1) != a1) = false := bne_eq_false_iff_eq.mpr c24
        clear c24
        (first | rw [c24b0] | rw [c24b1] | (simp only [i64_w, i32_w]; first | rw [c24b0] | rw [c24b1]) | skip)
        replace H := Option.bind_eq_some_iff.mp H
        obtain ⟨t299, A250, H⟩ := H
        replace H : (impl_AreasOf.l0 k1 a1 t299 l0_1 (l0_1.length : Int) (wrap64 (x11_1 + 1))) = some r := H
        have A25 := Aside0.mk A250
        clear A250
        have H' := Aside0.mk H
        clear H
        have hnb26 := NB295_293.out
        have hnc26 := NB293_295.out
        obtain ⟨hcz27_0, hcz27_1, hcz27_2, hcz27_3⟩ := cz4_ BK295
        obtain ⟨hfz27_0, hfz27_1, hfz27_2, hfz27_3⟩ := fz4_ BK295
        obtain ⟨Ao28, co28, eo28⟩ := Kd.R_slice HO_5.out
        subst eo28
        go_wp2_with (first | ((with_reducible refine gate_callee (f := 122) rfl ?_); refine goesL_ (some 28) rfl rfl Try.func122 (by kernel_rfl) rfl #[.slice Ao28 x5_1.length co28, .int .i64 ((rd_T93 l0_1 x11_1).f3)] rfl mp_q ?_; (with_reducible refine (impl_with.calls k1 _ _ x5_1 ((rd_T93 l0_1 x11_1).f3) t299 _ ?side1 ?side2 A25.out).mono ?_); (case side1 => repeat (first | exact (Kd.R_reads' HO_5.out).2.2 | (with_reducible refine Kd.C_alloc ?_ _) | (with_reducible refine Kd.C_drewN ?_ _) | (with_reducible refine Kd.C_drew ?_))); (case side2 => exact (Kd.R_reads' HO_5.out).2.1); rintro e w29 ⟨v300, rfl, ho0, hb⟩; refine ⟨_, rfl, ?_⟩; have HO301 : Aside0 (Kd.R (Kd.int .i64) 3 w29 w.heap.size (fun _ => True) v300 t299) := Aside0.mk (by (rcases ho0 with h_ | ⟨hv_, hr_⟩); (exact Kd.R_mono (Kd.R_lower h_ (below_size (bw_q HB))) (fun _ _ => trivial)); (rw [hv_, hr_]; exact Kd.R_mono (Kd.R_below (kR_q HO_5) hb) (fun _ _ => trivial))); replace HO_5 := Aside0.mk (Kd.R_below (kR_q HO_5) hb); replace BK293 := Aside0.mk (blk_below (g := gb293) (bk_q BK293) hb); replace BK295 := Aside0.mk (blk_below (g := gb295) (bk_q BK295) hb); replace HB := Aside0.mk (below_step (bw_q HB) hb); (try clear hb); (try clear hb2); (try clear hk); (try clear hi); (try clear ho0)))
        go_roundg k1
        case measure => have := HK1.out; omega
        case rel => exact ⟨(t299), (wrap64 (x11_1 + 1)), (by first | rfl | (simp; done) | (simp [*]; done)), H', ⟨by have := HK1.out; omega⟩, ⟨by (with_reducible repeat (first | apply Kd.R_alloc | apply Kd.R_drewN | apply Kd.R_drew)); exact Kd.R_mono HO301.out (fun _ hk => trivial)⟩, ⟨by refine bz_ ?_; exact BK293.out⟩, ⟨bw_q HB⟩⟩
       ·rw [if_neg c24] at H
        have c24b0 : (((rd_T93 l0_1 x11_1).f1) == a1) = false := beq_eq_false_iff_ne.mpr c24
        have c24b1 : (((rd_T93 l0_1 x11_1).f1) != a1) = true := bne_iff_ne.mpr c24
        (first | rw [c24b0] | rw [c24b1] | (simp only [i64_w, i32_w]; first | rw [c24b0] | rw [c24b1]) | skip)
        have H' := Aside0.mk H
        clear H
        go_wp2
        go_roundg k1
        case measure => have := HK1.out; omega
        case rel => exact ⟨(x5_1), (wrap64 (x11_1 + 1)), (by first | rfl | (simp; done) | (simp [*]; done)), H', ⟨by have := HK1.out; omega⟩, ⟨by (with_reducible repeat (first | apply Kd.R_alloc | apply Kd.R_drewN | apply Kd.R_drew)); exact HO_5.out⟩, ⟨by refine bz_ ?_; exact BK293.out⟩, ⟨bw_q HB⟩⟩
     ·rw [if_neg c7] at H
      exact absurd H (by simp)
    ·rw [if_neg c6] at H
     exact absurd H (by simp)
   ·rw [if_neg c5] at H
    have c5b0 : decide (x11_1 < (l0_1.length : Int)) = false := decide_eq_false c5
    clear c5
    obtain rfl := Option.some.inj H
    go_wp2
    go_ret
    exact ⟨_, er_q, by (with_reducible repeat (first | apply Kd.R_alloc | apply Kd.R_drewN | apply Kd.R_drew)); exact HO_5.out, bw_q HB⟩

end Go.Proofs.Ythjmdiggglkeaaa.Q

/- A Go function as a Lean function, and its contract: for every input the Go code comes to what the Lean function tells. -/

namespace Go.Proofs.Ythjmdiggglkeaaa.Q
open Go.RowKit Go.Proofs.YthjmdiggglkeaaaW.PrintWords Go.Proofs.YthjmdiggglkeaaaW.PrintLast Go.Proofs.YthjmdiggglkeaaaW.PrintMore
attribute [local go_sem] max2_int min2_int max_two min_two max_three min_three max_four min_four   -- for this text's walks alone
set_option linter.unusedVariables false
set_option linter.unusedSimpArgs false

/-! ### impl_hasInt: function 123 -/
def impl_hasInt.l0 : Nat → Int → List Int → Int → Int → Option (Bool)
 | 0, _, _, _, _ => none
 | k + 1, x1, x7, x8, x9 => if x9 < x8 then (if 0 ≤ x9 then (if x9 < (x7.length : Int) then (if (rd x7 x9) = x1 then (some true) else (impl_hasInt.l0 k x1 x7 x8 (wrap64 (x9 + 1)))) else (none)) else (none)) else (some false)
def impl_hasInt.f (k : Nat) (l0 : List Int) (a1 : Int) : Option (Bool) := impl_hasInt.l0 k a1 l0 (l0.length : Int) 0
theorem impl_hasInt.mono_l : ∀ k, (∀ y0 y1 y2 y3, LeO (impl_hasInt.l0 k y0 y1 y2 y3) (impl_hasInt.l0 (k + 1) y0 y1 y2 y3))
 | 0 => fun _ _ _ _ r h => by simp [impl_hasInt.l0] at h
 | k + 1 => by
  have ih0 := impl_hasInt.mono_l k
  ·intro y0 y1 y2 y3
   unfold impl_hasInt.l0
   repeat' first
   | (with_reducible exact ih0 _ _ _ _)
   | (with_reducible exact LeO.refl _)
   | (with_reducible exact LeO.none _)
   | (with_reducible refine LeO.ite ?_ ?_)
   | (with_reducible refine LeO.bind ?_ (fun _ => ?_))
   | exact ih0 _ _ _ _
   | exact LeO.none _
   | refine LeO.ite ?_ ?_
   | refine LeO.bind ?_ (fun _ => ?_)
theorem impl_hasInt.mono : ∀ a0 a1 k, LeO (impl_hasInt.f k a0 a1) (impl_hasInt.f (k + 1) a0 a1) := by
 intro a0 a1 k
 have ih0 := impl_hasInt.mono_l k
 unfold impl_hasInt.f
 repeat' first
   | (with_reducible exact ih0 _ _ _ _)
   | (with_reducible exact LeO.refl _)
   | (with_reducible exact LeO.none _)
   | (with_reducible refine LeO.ite ?_ ?_)
   | (with_reducible refine LeO.bind ?_ (fun _ => ?_))
   | exact ih0 _ _ _ _
   | exact LeO.none _
   | refine LeO.ite ?_ ?_
   | refine LeO.bind ?_ (fun _ => ?_)
set_option maxHeartbeats 8000000 in
set_option maxRecDepth 100000 in
theorem impl_hasInt.calls (k : Nat) (A0 : Option Addr) (c0 : Nat) (l0 : List Int) (a1 : Int) (r : Bool) (w : World) (hr0 : Kd.C (Kd.int .i64) w A0 l0.length l0) (hc0 : l0.length ≤ c0) (h : impl_hasInt.f k l0 a1 = some r) :
  Calls Try.prog 123 #[.slice A0 l0.length c0, .int .i64 a1] w fun e w' => e = .returned (.bool r) ∧ Drawn0 w w' := by
 have HR0 := Aside0.mk hr0
 have HC0 := Aside0.mk hc0
 clear hr0 hc0
 have H : (impl_hasInt.l0 k a1 l0 (l0.length : Int) 0) = some r := h
 clear h
 have H' := Aside0.mk H
 clear H
 go_enter Try.func123, Try.ntmps123
 go_wp2
 go_loopg [9] k (fun kq v9 w' => ∃ (x9_1 : Int), v9 = .int .i64 x9_1 ∧ Aside0 (impl_hasInt.l0 kq a1 l0 (l0.length : Int) x9_1 = some r) ∧ Aside0 (kq ≤ k) ∧ Drawn0 w w')
 case atStart => exact ⟨(0), (by first | rfl | (simp; done) | (simp [*]; done)), H', ⟨Nat.le_refl _⟩, by repeat (first | exact Drawn0.refl _ | apply Drawn0.step)⟩
 case round =>
  clear H'
  try clear c1
  try clear p2
  obtain ⟨x9_1, rfl, HA, HK1, ⟨m1, rfl⟩⟩ := hrel
  cases gk with
  | zero => exact absurd HA.out (by simp [impl_hasInt.l0])
  | succ k1 =>
   have H := HA.out
   clear HA
   simp only [impl_hasInt.l0] at H
   by_cases c3 : x9_1 < (l0.length : Int)
   ·rw [if_pos c3] at H
    have c3b0 : decide (x9_1 < (l0.length : Int)) = true := decide_eq_true c3
    clear c3
    by_cases c4 : 0 ≤ x9_1
    ·rw [if_pos c4] at H
     have c4b0 : decide (0 ≤ x9_1) = true := decide_eq_true c4
     clear c4
     by_cases c5 : x9_1 < (l0.length : Int)
     ·rw [if_pos c5] at H
      have c5b0 : decide (x9_1 < (l0.length : Int)) = true := decide_eq_true c5
      clear c5
      have HC6 := Aside0.mk H
      clear H
      have p1740 : 0 ≤ (x9_1 : Int) := of_decide_eq_true as_q
      have q1740 : x9_1 < (l0.length : Int) := of_decide_eq_true as_q
      obtain ⟨ad1740, e1740, hx1740_0⟩ := Kd.at_int HR0.out x9_1 p1740 q1740
      cases e1740
      replace p1740 := eq_true p1740
      replace q1740 := eq_true q1740
      go_upto_if 15 with (fail)
      (try clear hx1740_0)
      have H := HC6.out
      clear HC6
      by_cases c7 : (rd l0 x9_1) = a1
      ·rw [if_pos c7] at H
       have c7b0 : ((rd l0 x9_1) == a1) = true := beq_iff_eq.mpr c7
       have c7b1 : ((rd l0 x9_1) != a1) = false := bne_eq_false_iff_eq.mpr c7
       clear c7
       (first | rw [c7b0] | rw [c7b1] | (simp only [i64_w, i32_w]; first | rw [c7b0] | rw [c7b1]) | skip)
       obtain rfl := Option.some.inj H
       go_wp2
       go_ret
       exact ⟨by first | rfl | (simp; done) | (simp [*]; done), by repeat (first | exact Drawn0.refl _ | apply Drawn0.step)⟩
      ·rw [if_neg c7] at H
       have c7b0 : ((rd l0 x9_1) == a1) = false := beq_eq_false_iff_ne.mpr c7
       have c7b1 : ((rd l0 x9_1) != a1) = true := bne_iff_ne.mpr c7
       (first | rw [c7b0] | rw [c7b1] | (simp only [i64_w, i32_w]; first | rw [c7b0] | rw [c7b1]) | skip)
       have H' := Aside0.mk H
       clear H
       go_wp2
       go_roundg k1
       case measure => have := HK1.out; omega
       case rel => exact ⟨(wrap64 (x9_1 + 1)), (by first | rfl | (simp; done) | (simp [*]; done)), H', ⟨by have := HK1.out; omega⟩, by repeat (first | exact Drawn0.refl _ | apply Drawn0.step)⟩
     ·rw [if_neg c5] at H
      exact absurd H (by simp)
    ·rw [if_neg c4] at H
     exact absurd H (by simp)
   ·rw [if_neg c3] at H
    have c3b0 : decide (x9_1 < (l0.length : Int)) = false := decide_eq_false c3
    clear c3
    obtain rfl := Option.some.inj H
    go_wp2
    go_ret
    exact ⟨by first | rfl | (simp; done) | (simp [*]; done), by repeat (first | exact Drawn0.refl _ | apply Drawn0.step)⟩

end Go.Proofs.Ythjmdiggglkeaaa.Q

/- A Go function as a Lean function, and its contract: for every input the Go code comes to what the Lean function tells. -/



namespace Go.Proofs.Ythjmdiggglkeaaa.Q
open Go.RowKit Go.Proofs.YthjmdiggglkeaaaW.PrintWords Go.Proofs.YthjmdiggglkeaaaW.PrintLast Go.Proofs.YthjmdiggglkeaaaW.PrintMore
attribute [local go_sem] max2_int min2_int max_two min_two max_three min_three max_four min_four   -- for this text's walks alone
set_option linter.unusedVariables false
set_option linter.unusedSimpArgs false

/-! ### impl_Border: function 62 -/
def impl_Border.f (k : Nat) (a0_0 : Int) (l0_1 : List (S93)) (l0_2 : List (S102)) (a1 : Int) : Option (Bool) := (impl_AreasOf.f k a0_0 l0_1 l0_2 a1).bind fun t304 => ((impl_hasInt.f k t304 0).bind fun t307 => (if t307 = true then (some (decide ((t304.length : Int) > 1))) else (some false)))
theorem impl_Border.mono : ∀ a0 a1 a2 a3 k, LeO (impl_Border.f k a0 a1 a2 a3) (impl_Border.f (k + 1) a0 a1 a2 a3) := by
 intro a0 a1 a2 a3 k
 unfold impl_Border.f
 repeat' first
   | (with_reducible exact impl_AreasOf.mono _ _ _ _ _)
   | (with_reducible exact impl_hasInt.mono _ _ _)
   | (with_reducible exact LeO.refl _)
   | (with_reducible exact LeO.none _)
   | (with_reducible refine LeO.ite ?_ ?_)
   | (with_reducible refine LeO.bind ?_ (fun _ => ?_))
   | exact impl_AreasOf.mono _ _ _ _ _
   | exact impl_hasInt.mono _ _ _
   | exact LeO.none _
   | refine LeO.ite ?_ ?_
   | refine LeO.bind ?_ (fun _ => ?_)
set_option maxHeartbeats 8000000 in
set_option maxRecDepth 100000 in
theorem impl_Border.calls (k : Nat) (a0_0 : Int) (A0_1 : Option Addr) (c0_1 : Nat) (l0_1 : List (S93)) (A0_2 : Option Addr) (c0_2 : Nat) (l0_2 : List (S102)) (a1 : Int) (r : Bool) (w : World) (hr0_1 : Kd.C k93 w A0_1 l0_1.length l0_1) (hc0_1 : l0_1.length ≤ c0_1) (hr0_2 : Kd.C k102 w A0_2 l0_2.length l0_2) (hc0_2 : l0_2.length ≤ c0_2) (h : impl_Border.f k a0_0 l0_1 l0_2 a1 = some r) :
  Calls Try.prog 62 #[.agg #[.int .i64 a0_0, .slice A0_1 l0_1.length c0_1, .slice A0_2 l0_2.length c0_2], .int .i64 a1] w fun e w' => e = .returned (.bool r) ∧ Below w.heap.size w w' := by
 have hu31 := Try.underlying31
 have HR0_1 := Aside0.mk hr0_1
 have HC0_1 := Aside0.mk hc0_1
 clear hr0_1 hc0_1
 have HR0_2 := Aside0.mk hr0_2
 have HC0_2 := Aside0.mk hc0_2
 clear hr0_2 hc0_2
 have HB := Aside0.mk (Below.refl w.heap.size w)
 have H : ((impl_AreasOf.f k a0_0 l0_1 l0_2 a1).bind fun t304 => ((impl_hasInt.f k t304 0).bind fun t307 => (if t307 = true then (some (decide ((t304.length : Int) > 1))) else (some false)))) = some r := h
 clear h
 replace H := Option.bind_eq_some_iff.mp H
 obtain ⟨t304, A30, H⟩ := H
 replace H : ((impl_hasInt.f k t304 0).bind fun t307 => (if t307 = true then (some (decide ((t304.length : Int) > 1))) else (some false))) = some r := H
 have A3 := Aside0.mk A30
 clear A30
 replace H := Option.bind_eq_some_iff.mp H
 obtain ⟨t307, A40, H⟩ := H
 replace H : (if t307 = true then (some (decide ((t304.length : Int) > 1))) else (some false)) = some r := H
 have A4 := Aside0.mk A40
 clear A40
 by_cases c5 : t307 = true
 ·subst c5
  have H1 : (some (decide ((t304.length : Int) > 1))) = some r := by rw [if_pos rfl] at H; exact H
  clear H
  have H := H1
  clear H1
  obtain rfl := Option.some.inj H
  go_enter Try.func62, Try.ntmps62
  go_wp2_with (first | ((with_reducible refine gate_dst (N := 2) rfl ?_); (try (refine gate_guard (by rfl) ?_; dsimp only)); refine box_q 2 #[.int .i64 a0_0, .slice A0_1 l0_1.length c0_1, .slice A0_2 l0_2.length c0_2] 31 ?_; intro gb303 hg w6 hbox hb; have BK303 := Aside0.mk (hbox); have GW303 := Aside0.mk ((by rw [hg]; exact (below_size (bw_q HB)) : w.heap.size ≤ gb303)); have GE303 := Aside0.mk ((by rw [hg]; exact (below_size (bw_q HB)) : w.heap.size ≤ gb303)); replace HB := Aside0.mk (below_step (bw_q HB) hb); clear hb hbox hg; have hcz7_0 : w6.cell? ⟨gb303, 0, none⟩ = some (.int .i64 a0_0) := (blk_cell BK303.out 0).trans rfl; have hcz7_1 : w6.cell? ⟨gb303, 1, none⟩ = some (.slice A0_1 l0_1.length c0_1) := (blk_cell BK303.out 1).trans rfl; have hcz7_2 : w6.cell? ⟨gb303, 2, none⟩ = some (.slice A0_2 l0_2.length c0_2) := (blk_cell BK303.out 2).trans rfl; have hfz7_0 := blk_frozen BK303.out 0; have hfz7_1 := blk_frozen BK303.out 1; have hfz7_2 := blk_frozen BK303.out 2) | ((with_reducible refine gate_callee (f := 61) rfl ?_); refine goesL_ (some 8) rfl rfl Try.func61 (by kernel_rfl) rfl #[.agg #[.int .i64 a0_0, .slice A0_1 l0_1.length c0_1, .slice A0_2 l0_2.length c0_2], .int .i64 a1] rfl mp_q ?_; (with_reducible refine (impl_AreasOf.calls k a0_0 _ _ l0_1 _ _ l0_2 a1 t304 _ ?side1 ?side2 ?side3 ?side4 A3.out).mono ?_); (case side1 => exact cs_q (Kd.C_below HR0_1.out HB.out)); (case side2 => exact HC0_1.out); (case side3 => exact cs_q (Kd.C_below HR0_2.out HB.out)); (case side4 => exact HC0_2.out); rintro e w8 ⟨v305, rfl, ho0, hb⟩; refine ⟨_, rfl, ?_⟩; have HO306 := Aside0.mk (Kd.R_lower ho0 (below_size (bw_q HB))); replace BK303 := Aside0.mk (blk_below (g := gb303) (bk_q BK303) hb); replace HB := Aside0.mk (below_step (bw_q HB) hb); (try clear hb); (try clear hb2); (try clear hk); (try clear hi); (try clear ho0); obtain ⟨Ao9, co9, eo9⟩ := Kd.R_slice HO306.out; subst eo9) | ((with_reducible refine gate_callee (f := 123) rfl ?_); refine goesL_ (some 10) rfl rfl Try.func123 (by kernel_rfl) rfl #[.slice Ao9 t304.length co9, .int .i64 0] rfl mp_q ?_; (with_reducible refine (impl_hasInt.calls k _ _ t304 0 true _ ?side1 ?side2 A4.out).mono ?_); (case side1 => repeat (first | exact (Kd.R_reads' HO306.out).2.2 | (with_reducible refine Kd.C_alloc ?_ _) | (with_reducible refine Kd.C_drewN ?_ _) | (with_reducible refine Kd.C_drew ?_))); (case side2 => exact (Kd.R_reads' HO306.out).2.1); rintro e w' ⟨rfl, ⟨nd, rfl⟩⟩; refine ⟨_, rfl, ?_⟩))
  go_ret
  exact ⟨er_q, bw_q HB⟩
 ·replace c5 := Bool.eq_false_iff.mpr c5
  subst c5
  have H1 : (some false) = some r := by rw [if_neg (show ¬ (false = true) by decide)] at H; exact H
  clear H
  have H := H1
  clear H1
  obtain rfl := Option.some.inj H
  go_enter Try.func62, Try.ntmps62
  go_wp2_with (first | ((with_reducible refine gate_dst (N := 2) rfl ?_); (try (refine gate_guard (by rfl) ?_; dsimp only)); refine box_q 2 #[.int .i64 a0_0, .slice A0_1 l0_1.length c0_1, .slice A0_2 l0_2.length c0_2] 31 ?_; intro gb303 hg w10 hbox hb; have BK303 := Aside0.mk (hbox); have GW303 := Aside0.mk ((by rw [hg]; exact (below_size (bw_q HB)) : w.heap.size ≤ gb303)); have GE303 := Aside0.mk ((by rw [hg]; exact (below_size (bw_q HB)) : w.heap.size ≤ gb303)); replace HB := Aside0.mk (below_step (bw_q HB) hb); clear hb hbox hg; have hcz11_0 : w10.cell? ⟨gb303, 0, none⟩ = some (.int .i64 a0_0) := (blk_cell BK303.out 0).trans rfl; have hcz11_1 : w10.cell? ⟨gb303, 1, none⟩ = some (.slice A0_1 l0_1.length c0_1) := (blk_cell BK303.out 1).trans rfl; have hcz11_2 : w10.cell? ⟨gb303, 2, none⟩ = some (.slice A0_2 l0_2.length c0_2) := (blk_cell BK303.out 2).trans rfl; have hfz11_0 := blk_frozen BK303.out 0; have hfz11_1 := blk_frozen BK303.out 1; have hfz11_2 := blk_frozen BK303.out 2) | ((with_reducible refine gate_callee (f := 61) rfl ?_); refine goesL_ (some 8) rfl rfl Try.func61 (by kernel_rfl) rfl #[.agg #[.int .i64 a0_0, .slice A0_1 l0_1.length c0_1, .slice A0_2 l0_2.length c0_2], .int .i64 a1] rfl mp_q ?_; (with_reducible refine (impl_AreasOf.calls k a0_0 _ _ l0_1 _ _ l0_2 a1 t304 _ ?side1 ?side2 ?side3 ?side4 A3.out).mono ?_); (case side1 => exact cs_q (Kd.C_below HR0_1.out HB.out)); (case side2 => exact HC0_1.out); (case side3 => exact cs_q (Kd.C_below HR0_2.out HB.out)); (case side4 => exact HC0_2.out); rintro e w12 ⟨v305, rfl, ho0, hb⟩; refine ⟨_, rfl, ?_⟩; have HO306 := Aside0.mk (Kd.R_lower ho0 (below_size (bw_q HB))); replace BK303 := Aside0.mk (blk_below (g := gb303) (bk_q BK303) hb); replace HB := Aside0.mk (below_step (bw_q HB) hb); (try clear hb); (try clear hb2); (try clear hk); (try clear hi); (try clear ho0); obtain ⟨Ao13, co13, eo13⟩ := Kd.R_slice HO306.out; subst eo13) | ((with_reducible refine gate_callee (f := 123) rfl ?_); refine goesL_ (some 10) rfl rfl Try.func123 (by kernel_rfl) rfl #[.slice Ao13 t304.length co13, .int .i64 0] rfl mp_q ?_; (with_reducible refine (impl_hasInt.calls k _ _ t304 0 false _ ?side1 ?side2 A4.out).mono ?_); (case side1 => repeat (first | exact (Kd.R_reads' HO306.out).2.2 | (with_reducible refine Kd.C_alloc ?_ _) | (with_reducible refine Kd.C_drewN ?_ _) | (with_reducible refine Kd.C_drew ?_))); (case side2 => exact (Kd.R_reads' HO306.out).2.1); rintro e w' ⟨rfl, ⟨nd, rfl⟩⟩; refine ⟨_, rfl, ?_⟩))
  go_ret
  exact ⟨er_q, bw_q HB⟩

end Go.Proofs.Ythjmdiggglkeaaa.Q

/- A Go function as a Lean function, and its contract: for every input the Go code comes to what the Lean function tells. -/

namespace Go.Proofs.Ythjmdiggglkeaaa.Q
open Go.RowKit Go.Proofs.YthjmdiggglkeaaaW.PrintWords Go.Proofs.YthjmdiggglkeaaaW.PrintLast Go.Proofs.YthjmdiggglkeaaaW.PrintMore
attribute [local go_sem] max2_int min2_int max_two min_two max_three min_three max_four min_four   -- for this text's walks alone
set_option linter.unusedVariables false
set_option linter.unusedSimpArgs false

/-! ### laws_in: function 63 -/
def laws_in.l0 : Nat → List Int → Int → Int → Option (Bool)
 | 0, _, _, _ => none
 | k + 1, x0, x1, x5 => if x5 < (x0.length : Int) then (if 0 ≤ x5 then (if (rd x0 x5) = x1 then (some true) else (laws_in.l0 k x0 x1 (wrap64 (x5 + 1)))) else (none)) else (some false)
def laws_in.f (k : Nat) (l0 : List Int) (a1 : Int) : Option (Bool) := laws_in.l0 k l0 a1 0
theorem laws_in.mono_l : ∀ k, (∀ y0 y1 y2, LeO (laws_in.l0 k y0 y1 y2) (laws_in.l0 (k + 1) y0 y1 y2))
 | 0 => fun _ _ _ r h => by simp [laws_in.l0] at h
 | k + 1 => by
  have ih0 := laws_in.mono_l k
  ·intro y0 y1 y2
   unfold laws_in.l0
   repeat' first
   | (with_reducible exact ih0 _ _ _)
   | (with_reducible exact LeO.refl _)
   | (with_reducible exact LeO.none _)
   | (with_reducible refine LeO.ite ?_ ?_)
   | (with_reducible refine LeO.bind ?_ (fun _ => ?_))
   | exact ih0 _ _ _
   | exact LeO.none _
   | refine LeO.ite ?_ ?_
   | refine LeO.bind ?_ (fun _ => ?_)
theorem laws_in.mono : ∀ a0 a1 k, LeO (laws_in.f k a0 a1) (laws_in.f (k + 1) a0 a1) := by
 intro a0 a1 k
 have ih0 := laws_in.mono_l k
 unfold laws_in.f
 repeat' first
   | (with_reducible exact ih0 _ _ _)
   | (with_reducible exact LeO.refl _)
   | (with_reducible exact LeO.none _)
   | (with_reducible refine LeO.ite ?_ ?_)
   | (with_reducible refine LeO.bind ?_ (fun _ => ?_))
   | exact ih0 _ _ _
   | exact LeO.none _
   | refine LeO.ite ?_ ?_
   | refine LeO.bind ?_ (fun _ => ?_)
set_option maxHeartbeats 8000000 in
set_option maxRecDepth 100000 in
theorem laws_in.calls (k : Nat) (A0 : Option Addr) (c0 : Nat) (l0 : List Int) (a1 : Int) (r : Bool) (w : World) (hr0 : Kd.C (Kd.int .i64) w A0 l0.length l0) (hc0 : l0.length ≤ c0) (h : laws_in.f k l0 a1 = some r) :
  Calls Try.prog 63 #[.slice A0 l0.length c0, .int .i64 a1] w fun e w' => e = .returned (.bool r) ∧ Drawn0 w w' := by
 have HR0 := Aside0.mk hr0
 have HC0 := Aside0.mk hc0
 clear hr0 hc0
 have H : (laws_in.l0 k l0 a1 0) = some r := h
 clear h
 have H' := Aside0.mk H
 clear H
 go_enter Try.func63, Try.ntmps63
 go_wp2
 go_loopg [5] k (fun kq v5 w' => ∃ (x5_1 : Int), v5 = .int .i64 x5_1 ∧ Aside0 (laws_in.l0 kq l0 a1 x5_1 = some r) ∧ Aside0 (kq ≤ k) ∧ Drawn0 w w')
 case atStart => exact ⟨(0), (by first | rfl | (simp; done) | (simp [*]; done)), H', ⟨Nat.le_refl _⟩, by repeat (first | exact Drawn0.refl _ | apply Drawn0.step)⟩
 case round =>
  clear H'
  try clear p2
  obtain ⟨x5_1, rfl, HA, HK1, ⟨m1, rfl⟩⟩ := hrel
  cases gk with
  | zero => exact absurd HA.out (by simp [laws_in.l0])
  | succ k1 =>
   have H := HA.out
   clear HA
   simp only [laws_in.l0] at H
   by_cases c3 : x5_1 < (l0.length : Int)
   ·rw [if_pos c3] at H
    have c3b0 : decide (x5_1 < (l0.length : Int)) = true := decide_eq_true c3
    clear c3
    by_cases c4 : 0 ≤ x5_1
    ·rw [if_pos c4] at H
     have c4b0 : decide (0 ≤ x5_1) = true := decide_eq_true c4
     clear c4
     have HC5 := Aside0.mk H
     clear H
     have p1742 : 0 ≤ (x5_1 : Int) := of_decide_eq_true as_q
     have q1742 : x5_1 < (l0.length : Int) := of_decide_eq_true as_q
     obtain ⟨ad1742, e1742, hx1742_0⟩ := Kd.at_int HR0.out x5_1 p1742 q1742
     cases e1742
     replace p1742 := eq_true p1742
     replace q1742 := eq_true q1742
     go_upto_if 17 with (fail)
     (try clear hx1742_0)
     have H := HC5.out
     clear HC5
     by_cases c6 : (rd l0 x5_1) = a1
     ·rw [if_pos c6] at H
      have c6b0 : ((rd l0 x5_1) == a1) = true := beq_iff_eq.mpr c6
      have c6b1 : ((rd l0 x5_1) != a1) = false := bne_eq_false_iff_eq.mpr c6
      clear c6
      (first | rw [c6b0] | rw [c6b1] | (simp only [i64_w, i32_w]; first | rw [c6b0] | rw [c6b1]) | skip)
      obtain rfl := Option.some.inj H
      go_wp2
      go_ret
      exact ⟨by first | rfl | (simp; done) | (simp [*]; done), by repeat (first | exact Drawn0.refl _ | apply Drawn0.step)⟩
     ·rw [if_neg c6] at H
      have c6b0 : ((rd l0 x5_1) == a1) = false := beq_eq_false_iff_ne.mpr c6
      have c6b1 : ((rd l0 x5_1) != a1) = true := bne_iff_ne.mpr c6
      (first | rw [c6b0] | rw [c6b1] | (simp only [i64_w, i32_w]; first | rw [c6b0] | rw [c6b1]) | skip)
      have H' := Aside0.mk H
      clear H
      go_wp2
      go_roundg k1
      case measure => have := HK1.out; omega
      case rel => exact ⟨(wrap64 (x5_1 + 1)), (by first | rfl | (simp; done) | (simp [*]; done)), H', ⟨by have := HK1.out; omega⟩, by repeat (first | exact Drawn0.refl _ | apply Drawn0.step)⟩
    ·rw [if_neg c4] at H
     exact absurd H (by simp)
   ·rw [if_neg c3] at H
    have c3b0 : decide (x5_1 < (l0.length : Int)) = false := decide_eq_false c3
    clear c3
    obtain rfl := Option.some.inj H
    go_wp2
    go_ret
    exact ⟨by first | rfl | (simp; done) | (simp [*]; done), by repeat (first | exact Drawn0.refl _ | apply Drawn0.step)⟩

end Go.Proofs.Ythjmdiggglkeaaa.Q

/- A Go function as a Lean function, and its contract: for every input the Go code comes to what the Lean function tells. -/


namespace Go.Proofs.Ythjmdiggglkeaaa.Q
open Go.RowKit Go.Proofs.YthjmdiggglkeaaaW.PrintWords Go.Proofs.YthjmdiggglkeaaaW.PrintLast Go.Proofs.YthjmdiggglkeaaaW.PrintMore
attribute [local go_sem] max2_int min2_int max_two min_two max_three min_three max_four min_four   -- for this text's walks alone
set_option linter.unusedVariables false
set_option linter.unusedSimpArgs false

/-! ### impl_NextTo: function 64 -/
def impl_NextTo.l0 : Nat → Int → Int → List Int → List (S93) → Int → Int → Option (List Int)
 | 0, _, _, _, _, _, _ => none
 | k + 1, x1, x2, x7, x11, x12, x13 => if x13 < x12 then (if 0 ≤ x13 then (if x13 < (x11.length : Int) then (if ((rd_T93 x11 x13).f3) = x2 then (if ((rd_T93 x11 x13).f0) = x1 then ((impl_with.f k x7 ((rd_T93 x11 x13).f1)).bind fun t312 => (if ((rd_T93 x11 x13).f1) = x1 then ((impl_with.f k t312 ((rd_T93 x11 x13).f0)).bind fun t315 => (impl_NextTo.l0 k x1 x2 t315 x11 x12 (wrap64 (x13 + 1)))) else (impl_NextTo.l0 k x1 x2 t312 x11 x12 (wrap64 (x13 + 1))))) else (if ((rd_T93 x11 x13).f1) = x1 then ((impl_with.f k x7 ((rd_T93 x11 x13).f0)).bind fun t318 => (impl_NextTo.l0 k x1 x2 t318 x11 x12 (wrap64 (x13 + 1)))) else (impl_NextTo.l0 k x1 x2 x7 x11 x12 (wrap64 (x13 + 1))))) else (impl_NextTo.l0 k x1 x2 x7 x11 x12 (wrap64 (x13 + 1)))) else (none)) else (none)) else (some x7)
def impl_NextTo.f (k : Nat) (a0_0 : Int) (l0_1 : List (S93)) (l0_2 : List (S102)) (a1 : Int) (a2 : Int) : Option (List Int) := impl_NextTo.l0 k a1 a2 ([] : List Int) l0_1 (l0_1.length : Int) 0
theorem impl_NextTo.mono_l : ∀ k, (∀ y0 y1 y2 y3 y4 y5, LeO (impl_NextTo.l0 k y0 y1 y2 y3 y4 y5) (impl_NextTo.l0 (k + 1) y0 y1 y2 y3 y4 y5))
 | 0 => fun _ _ _ _ _ _ r h => by simp [impl_NextTo.l0] at h
 | k + 1 => by
  have ih0 := impl_NextTo.mono_l k
  ·intro y0 y1 y2 y3 y4 y5
   unfold impl_NextTo.l0
   repeat' first
   | (with_reducible exact ih0 _ _ _ _ _ _)
   | (with_reducible exact impl_with.mono _ _ _)
   | (with_reducible exact LeO.refl _)
   | (with_reducible exact LeO.none _)
   | (with_reducible refine LeO.ite ?_ ?_)
   | (with_reducible refine LeO.bind ?_ (fun _ => ?_))
   | exact ih0 _ _ _ _ _ _
   | exact impl_with.mono _ _ _
   | exact LeO.none _
   | refine LeO.ite ?_ ?_
   | refine LeO.bind ?_ (fun _ => ?_)
theorem impl_NextTo.mono : ∀ a0 a1 a2 a3 a4 k, LeO (impl_NextTo.f k a0 a1 a2 a3 a4) (impl_NextTo.f (k + 1) a0 a1 a2 a3 a4) := by
 intro a0 a1 a2 a3 a4 k
 have ih0 := impl_NextTo.mono_l k
 unfold impl_NextTo.f
 repeat' first
   | (with_reducible exact ih0 _ _ _ _ _ _)
   | (with_reducible exact impl_with.mono _ _ _)
   | (with_reducible exact LeO.refl _)
   | (with_reducible exact LeO.none _)
   | (with_reducible refine LeO.ite ?_ ?_)
   | (with_reducible refine LeO.bind ?_ (fun _ => ?_))
   | exact ih0 _ _ _ _ _ _
   | exact impl_with.mono _ _ _
   | exact LeO.none _
   | refine LeO.ite ?_ ?_
   | refine LeO.bind ?_ (fun _ => ?_)
set_option maxHeartbeats 8000000 in
set_option maxRecDepth 100000 in
theorem impl_NextTo.calls (k : Nat) (a0_0 : Int) (A0_1 : Option Addr) (c0_1 : Nat) (l0_1 : List (S93)) (A0_2 : Option Addr) (c0_2 : Nat) (l0_2 : List (S102)) (a1 : Int) (a2 : Int) (r : List Int) (w : World) (hr0_1 : Kd.C k93 w A0_1 l0_1.length l0_1) (hc0_1 : l0_1.length ≤ c0_1) (hr0_2 : Kd.C k102 w A0_2 l0_2.length l0_2) (hc0_2 : l0_2.length ≤ c0_2) (h : impl_NextTo.f k a0_0 l0_1 l0_2 a1 a2 = some r) :
  Calls Try.prog 64 #[.agg #[.int .i64 a0_0, .slice A0_1 l0_1.length c0_1, .slice A0_2 l0_2.length c0_2], .int .i64 a1, .int .i64 a2] w fun e w' => ∃ v0_ : Value, e = .returned (v0_) ∧ Kd.R (Kd.int .i64) 3 w' w.heap.size (fun _ => True) v0_ r ∧ Below w.heap.size w w' := by
 have hu31 := Try.underlying31
 have hu93 := Try.underlying93
 have HR0_1 := Aside0.mk hr0_1
 have HC0_1 := Aside0.mk hc0_1
 clear hr0_1 hc0_1
 have HR0_2 := Aside0.mk hr0_2
 have HC0_2 := Aside0.mk hc0_2
 clear hr0_2 hc0_2
 have HB := Aside0.mk (Below.refl w.heap.size w)
 have H : (impl_NextTo.l0 k a1 a2 ([] : List Int) l0_1 (l0_1.length : Int) 0) = some r := h
 clear h
 have H' := Aside0.mk H
 clear H
 go_enter Try.func64, Try.ntmps64
 go_wp2_with (first | ((with_reducible refine gate_dst (N := 3) rfl ?_); refine box_q 3 #[.int .i64 a0_0, .slice A0_1 l0_1.length c0_1, .slice A0_2 l0_2.length c0_2] 31 ?_; intro gb309 hg w4 hbox hb; have BK309 := Aside0.mk (hbox); have GW309 := Aside0.mk ((by rw [hg]; exact (below_size (bw_q HB)) : w.heap.size ≤ gb309)); have GE309 := Aside0.mk ((by rw [hg]; exact (below_size (bw_q HB)) : w.heap.size ≤ gb309)); replace HB := Aside0.mk (below_step (bw_q HB) hb); clear hb hbox hg; have hcz5_0 : w4.cell? ⟨gb309, 0, none⟩ = some (.int .i64 a0_0) := (blk_cell BK309.out 0).trans rfl; have hcz5_1 : w4.cell? ⟨gb309, 1, none⟩ = some (.slice A0_1 l0_1.length c0_1) := (blk_cell BK309.out 1).trans rfl; have hcz5_2 : w4.cell? ⟨gb309, 2, none⟩ = some (.slice A0_2 l0_2.length c0_2) := (blk_cell BK309.out 2).trans rfl; have hfz5_0 := blk_frozen BK309.out 0; have hfz5_1 := blk_frozen BK309.out 1; have hfz5_2 := blk_frozen BK309.out 2))
 go_loopg [7, 13] k (fun kq v7 v13 w' => ∃ (x7_1 : List Int) (x13_1 : Int), v13 = .int .i64 x13_1 ∧ Aside0 (impl_NextTo.l0 kq a1 a2 x7_1 l0_1 (l0_1.length : Int) x13_1 = some r) ∧ Aside0 (kq ≤ k) ∧ Aside0 (Kd.R (Kd.int .i64) 3 w' w.heap.size (fun _ => True) v7 x7_1) ∧ Aside0 (w'.heap[gb309]? = some (.cells #[.int .i64 a0_0, (.slice A0_1 l0_1.length c0_1), (.slice A0_2 l0_2.length c0_2)] 31 (0, 0))) ∧ Aside0 (Below w.heap.size w w'))
 case atStart => exact ⟨(([] : List Int)), (0), (by first | rfl | (simp; done) | (simp [*]; done)), H', ⟨Nat.le_refl _⟩, ⟨by first | exact Kd.R_nil _ _ _ _ _ | exact Kd.N_nil _ _ _ _ _ | exact Kd.V_nil _ _ _ _ _ | exact Kd.Q_nil _ _ _ _ _ | exact Kd.S_nil _ _ _ _ _⟩, ⟨by refine bz_ ?_; exact BK309.out⟩, ⟨bw_q HB⟩⟩
 case round =>
  clear H'
  try clear p2
  try clear hcz5_0
  try clear hcz5_1
  try clear hcz5_2
  try clear hfz5_0
  try clear hfz5_1
  try clear hfz5_2
  obtain ⟨x7_1, x13_1, rfl, HA, HK1, HO_7, BK309, HB⟩ := hrel
  cases gk with
  | zero => exact absurd HA.out (by simp [impl_NextTo.l0])
  | succ k1 =>
   have H := HA.out
   clear HA
   simp only [impl_NextTo.l0] at H
   by_cases c6 : x13_1 < (l0_1.length : Int)
   ·rw [if_pos c6] at H
    have c6b0 : decide (x13_1 < (l0_1.length : Int)) = true := decide_eq_true c6
    clear c6
    by_cases c7 : 0 ≤ x13_1
    ·rw [if_pos c7] at H
     have c7b0 : decide (0 ≤ x13_1) = true := decide_eq_true c7
     clear c7
     by_cases c8 : x13_1 < (l0_1.length : Int)
     ·rw [if_pos c8] at H
      have c8b0 : decide (x13_1 < (l0_1.length : Int)) = true := decide_eq_true c8
      clear c8
      have HC9 := Aside0.mk H
      clear H
      have p310 : 0 ≤ (x13_1 : Int) := of_decide_eq_true as_q
      have q310 : x13_1 < (l0_1.length : Int) := of_decide_eq_true as_q
      obtain ⟨ad310, e310, hx310_0, hx310_1, hx310_2, hx310_3⟩ := at_T93 HR0_1.out x13_1 p310 q310
      cases e310
      replace hx310_0 := (HB.out.cell (World.block_lt_of_cell? w _ hx310_0)).trans hx310_0
      replace hx310_1 := (HB.out.cell (World.block_lt_of_cell? w _ hx310_1)).trans hx310_1
      replace hx310_2 := (HB.out.cell (World.block_lt_of_cell? w _ hx310_2)).trans hx310_2
      replace hx310_3 := (HB.out.cell (World.block_lt_of_cell? w _ hx310_3)).trans hx310_3
      replace p310 := eq_true p310
      replace q310 := eq_true q310
      go_upto_if 20 with (first | ((with_reducible refine gate_dst (N := 9) rfl ?_); refine box_q 9 #[.int .i64 0, .int .i64 0, .int .i64 0, .int .i64 0] 93 ?_; intro gb311 hg w10 hbox hb; replace HO_7 := Aside0.mk (Kd.R_below (kR_q HO_7) hb); have BK311 := Aside0.mk (hbox); have GW311 := Aside0.mk ((by rw [hg]; exact (below_size (bw_q HB)) : w.heap.size ≤ gb311)); have GE311 := Aside0.mk ((by rw [hg]; exact (below_size (bw_q HB)) : w.heap.size ≤ gb311)); replace HB := Aside0.mk (below_step (bw_q HB) hb); have NB309_311 := Aside0.mk ((by rw [hg]; exact Nat.ne_of_lt (blk_lt (g := gb309) (o := .cells #[.int .i64 a0_0, .slice (some ad310) l0_1.length c0_1, .slice A0_2 l0_2.length c0_2] 31 (0, 0)) (bk_q BK309)) : gb309 ≠ gb311)); have NB311_309 := Aside0.mk ((by rw [hg]; exact Nat.ne_of_gt (blk_lt (g := gb309) (o := .cells #[.int .i64 a0_0, .slice (some ad310) l0_1.length c0_1, .slice A0_2 l0_2.length c0_2] 31 (0, 0)) (bk_q BK309)) : gb311 ≠ gb309)); replace BK309 := Aside0.mk (blk_below (g := gb309) (bk_q BK309) hb); clear hb hbox hg; have hnb11 := NB311_309.out; have hnc11 := NB309_311.out; have hcz12_0 : w10.cell? ⟨gb311, 0, none⟩ = some (.int .i64 0) := (blk_cell BK311.out 0).trans rfl; have hcz12_1 : w10.cell? ⟨gb311, 1, none⟩ = some (.int .i64 0) := (blk_cell BK311.out 1).trans rfl; have hcz12_2 : w10.cell? ⟨gb311, 2, none⟩ = some (.int .i64 0) := (blk_cell BK311.out 2).trans rfl; have hcz12_3 : w10.cell? ⟨gb311, 3, none⟩ = some (.int .i64 0) := (blk_cell BK311.out 3).trans rfl; have hfz12_0 := blk_frozen BK311.out 0; have hfz12_1 := blk_frozen BK311.out 1; have hfz12_2 := blk_frozen BK311.out 2; have hfz12_3 := blk_frozen BK311.out 3))
      have n0_ : Aside0 (Kd.R (Kd.int .i64) 3 ((((w10.setCell ⟨gb311, 0, none⟩ (.int .i64 ((rd_T93 l0_1 x13_1).f0))).setCell ⟨gb311, 1, none⟩ (.int .i64 ((rd_T93 l0_1 x13_1).f1))).setCell ⟨gb311, 2, none⟩ (.int .i64 ((rd_T93 l0_1 x13_1).f2))).setCell ⟨gb311, 3, none⟩ (.int .i64 ((rd_T93 l0_1 x13_1).f3))) w.heap.size (fun _ => True) u7 x7_1) := ⟨by (with_reducible repeat (first | apply Kd.R_alloc | apply Kd.R_drewN | apply Kd.R_drew)); exact Kd.R_mono (Kd.R_far (p := ⟨gb311, 3, none⟩) (Kd.R_far (p := ⟨gb311, 2, none⟩) (Kd.R_far (p := ⟨gb311, 1, none⟩) (Kd.R_far (p := ⟨gb311, 0, none⟩) (Kd.R_types HO_7.out BK311.out (by decide)) (fun _ hk => hk.2) (.int .i64 ((rd_T93 l0_1 x13_1).f0))) (fun _ hk => hk.2) (.int .i64 ((rd_T93 l0_1 x13_1).f1))) (fun _ hk => hk.2) (.int .i64 ((rd_T93 l0_1 x13_1).f2))) (fun _ hk => hk.2) (.int .i64 ((rd_T93 l0_1 x13_1).f3))) (fun _ hk => trivial)⟩
      have n1_ : Aside0 (((((w10.setCell ⟨gb311, 0, none⟩ (.int .i64 ((rd_T93 l0_1 x13_1).f0))).setCell ⟨gb311, 1, none⟩ (.int .i64 ((rd_T93 l0_1 x13_1).f1))).setCell ⟨gb311, 2, none⟩ (.int .i64 ((rd_T93 l0_1 x13_1).f2))).setCell ⟨gb311, 3, none⟩ (.int .i64 ((rd_T93 l0_1 x13_1).f3))).heap[gb309]? = some (.cells #[.int .i64 a0_0, .slice (some ad310) l0_1.length c0_1, .slice A0_2 l0_2.length c0_2] 31 (0, 0))) := ⟨by refine bz_ ?_; refine blk_far ?_ NB309_311.out _; refine bz_ ?_; refine blk_far ?_ NB309_311.out _; refine bz_ ?_; refine blk_far ?_ NB309_311.out _; refine bz_ ?_; refine blk_far ?_ NB309_311.out _; refine bz_ ?_; exact BK309.out⟩
      have n2_ : Aside0 (((((w10.setCell ⟨gb311, 0, none⟩ (.int .i64 ((rd_T93 l0_1 x13_1).f0))).setCell ⟨gb311, 1, none⟩ (.int .i64 ((rd_T93 l0_1 x13_1).f1))).setCell ⟨gb311, 2, none⟩ (.int .i64 ((rd_T93 l0_1 x13_1).f2))).setCell ⟨gb311, 3, none⟩ (.int .i64 ((rd_T93 l0_1 x13_1).f3))).heap[gb311]? = some (.cells #[.int .i64 ((rd_T93 l0_1 x13_1).f0), .int .i64 ((rd_T93 l0_1 x13_1).f1), .int .i64 ((rd_T93 l0_1 x13_1).f2), .int .i64 ((rd_T93 l0_1 x13_1).f3)] 93 (0, 0))) := ⟨by refine bz_ ?_; refine blk_put (cs := #[.int .i64 ((rd_T93 l0_1 x13_1).f0), .int .i64 ((rd_T93 l0_1 x13_1).f1), .int .i64 ((rd_T93 l0_1 x13_1).f2), .int .i64 0]) ?_ 3 _ rfl; refine bz_ ?_; refine blk_put (cs := #[.int .i64 ((rd_T93 l0_1 x13_1).f0), .int .i64 ((rd_T93 l0_1 x13_1).f1), .int .i64 0, .int .i64 0]) ?_ 2 _ rfl; refine bz_ ?_; refine blk_put (cs := #[.int .i64 ((rd_T93 l0_1 x13_1).f0), .int .i64 0, .int .i64 0, .int .i64 0]) ?_ 1 _ rfl; refine bz_ ?_; refine blk_put (cs := #[.int .i64 0, .int .i64 0, .int .i64 0, .int .i64 0]) ?_ 0 _ rfl; refine bz_ ?_; exact BK311.out⟩
      have n3_ : Aside0 (Below w.heap.size w ((((w10.setCell ⟨gb311, 0, none⟩ (.int .i64 ((rd_T93 l0_1 x13_1).f0))).setCell ⟨gb311, 1, none⟩ (.int .i64 ((rd_T93 l0_1 x13_1).f1))).setCell ⟨gb311, 2, none⟩ (.int .i64 ((rd_T93 l0_1 x13_1).f2))).setCell ⟨gb311, 3, none⟩ (.int .i64 ((rd_T93 l0_1 x13_1).f3)))) := ⟨bw_q HB⟩
      (try clear HO_7)
      (try clear BK309)
      (try clear BK311)
      (try clear HB)
      generalize ((((w10.setCell ⟨gb311, 0, none⟩ (.int .i64 ((rd_T93 l0_1 x13_1).f0))).setCell ⟨gb311, 1, none⟩ (.int .i64 ((rd_T93 l0_1 x13_1).f1))).setCell ⟨gb311, 2, none⟩ (.int .i64 ((rd_T93 l0_1 x13_1).f2))).setCell ⟨gb311, 3, none⟩ (.int .i64 ((rd_T93 l0_1 x13_1).f3))) = w13 at n0_ n1_ n2_ n3_ ⊢
      have HO_7 := n0_
      have BK309 := n1_
      have BK311 := n2_
      have HB := n3_
      clear n0_ n1_ n2_ n3_
      (try clear hx310_0); (try clear hx310_1); (try clear hx310_2); (try clear hx310_3)
      have H := HC9.out
      clear HC9
      by_cases c14 : ((rd_T93 l0_1 x13_1).f3) = a2
      ·rw [if_pos c14] at H
       have c14b0 : (((rd_T93 l0_1 x13_1).f3) == a2) = true := beq_iff_eq.mpr c14
       have c14b1 : (((rd_T93 l0_1 x13_1).f3) != a2) = false := bne_eq_false_iff_eq.mpr c14
       clear c14
       (first | rw [c14b0] | rw [c14b1] | (simp only [i64_w, i32_w]; first | rw [c14b0] | rw [c14b1]) | skip)
       by_cases c15 : ((rd_T93 l0_1 x13_1).f0) = a1
       ·rw [if_pos c15] at H
        have c15b0 : (((rd_T93 l0_1 x13_1).f0) == a1) = true := beq_iff_eq.mpr c15
        have c15b1 : (((rd_T93 l0_1 x13_1).f0) != a1) = false := bne_eq_false_iff_eq.mpr c15
        clear c15
        replace H := Option.bind_eq_some_iff.mp H
        obtain ⟨t312, A160, H⟩ := H
        replace H : (if ((rd_T93 l0_1 x13_1).f1) = a1 then ((impl_with.f k1 t312 ((rd_T93 l0_1 x13_1).f0)).bind fun t315 => (impl_NextTo.l0 k1 a1 a2 t315 l0_1 (l0_1.length : Int) (wrap64 (x13_1 + 1)))) else (impl_NextTo.l0 k1 a1 a2 t312 l0_1 (l0_1.length : Int) (wrap64 (x13_1 + 1)))) = some r := H
        have A16 := Aside0.mk A160
        clear A160
        have HC17 := Aside0.mk H
        clear H
        have hnb18 := NB311_309.out
        have hnc18 := NB309_311.out
        obtain ⟨hcz19_0, hcz19_1, hcz19_2, hcz19_3⟩ := cz4_ BK311
        obtain ⟨hfz19_0, hfz19_1, hfz19_2, hfz19_3⟩ := fz4_ BK311
        obtain ⟨Ao20, co20, eo20⟩ := Kd.R_slice HO_7.out
        subst eo20
        go_upto_if 32 with (first | ((with_reducible refine gate_callee (f := 122) rfl ?_); refine goesL_ (some 28) rfl rfl Try.func122 (by kernel_rfl) rfl #[.slice Ao20 x7_1.length co20, .int .i64 ((rd_T93 l0_1 x13_1).f1)] rfl mp_q ?_; (with_reducible refine (impl_with.calls k1 _ _ x7_1 ((rd_T93 l0_1 x13_1).f1) t312 _ ?side1 ?side2 A16.out).mono ?_); (case side1 => repeat (first | exact (Kd.R_reads' HO_7.out).2.2 | (with_reducible refine Kd.C_alloc ?_ _) | (with_reducible refine Kd.C_drewN ?_ _) | (with_reducible refine Kd.C_drew ?_))); (case side2 => exact (Kd.R_reads' HO_7.out).2.1); rintro e w21 ⟨v313, rfl, ho0, hb⟩; refine ⟨_, rfl, ?_⟩; have HO314 : Aside0 (Kd.R (Kd.int .i64) 3 w21 w.heap.size (fun _ => True) v313 t312) := Aside0.mk (by (rcases ho0 with h_ | ⟨hv_, hr_⟩); (exact Kd.R_mono (Kd.R_lower h_ (below_size (bw_q HB))) (fun _ _ => trivial)); (rw [hv_, hr_]; exact Kd.R_mono (Kd.R_below (kR_q HO_7) hb) (fun _ _ => trivial))); replace HO_7 := Aside0.mk (Kd.R_below (kR_q HO_7) hb); replace BK309 := Aside0.mk (blk_below (g := gb309) (bk_q BK309) hb); replace BK311 := Aside0.mk (blk_below (g := gb311) (bk_q BK311) hb); replace HB := Aside0.mk (below_step (bw_q HB) hb); (try clear hb); (try clear hb2); (try clear hk); (try clear hi); (try clear ho0); have hcz22_0 : w21.cell? ⟨gb311, 0, none⟩ = some (.int .i64 ((rd_T93 l0_1 x13_1).f0)) := (blk_cell BK311.out 0).trans rfl; have hcz22_1 : w21.cell? ⟨gb311, 1, none⟩ = some (.int .i64 ((rd_T93 l0_1 x13_1).f1)) := (blk_cell BK311.out 1).trans rfl; have hcz22_2 : w21.cell? ⟨gb311, 2, none⟩ = some (.int .i64 ((rd_T93 l0_1 x13_1).f2)) := (blk_cell BK311.out 2).trans rfl; have hcz22_3 : w21.cell? ⟨gb311, 3, none⟩ = some (.int .i64 ((rd_T93 l0_1 x13_1).f3)) := (blk_cell BK311.out 3).trans rfl; have hfz22_0 := blk_frozen BK311.out 0; have hfz22_1 := blk_frozen BK311.out 1; have hfz22_2 := blk_frozen BK311.out 2; have hfz22_3 := blk_frozen BK311.out 3))
        have H := HC17.out
        clear HC17
        by_cases c23 : ((rd_T93 l0_1 x13_1).f1) = a1
        ·rw [if_pos c23] at H
         have c23b0 : (((rd_T93 l0_1 x13_1).f1) == a1) = true := beq_iff_eq.mpr c23
         have c23b1 : (((rd_T93 l0_1 x13_1).f1) != a1) = false := bne_eq_false_iff_eq.mpr c23
         clear c23
         (first | rw [c23b0] | rw [c23b1] | (simp only [i64_w, i32_w]; first | rw [c23b0] | rw [c23b1]) | skip)
         replace H := Option.bind_eq_some_iff.mp H
         obtain ⟨t315, A240, H⟩ := H
         replace H : (impl_NextTo.l0 k1 a1 a2 t315 l0_1 (l0_1.length : Int) (wrap64 (x13_1 + 1))) = some r := H
         have A24 := Aside0.mk A240
         clear A240
         have H' := Aside0.mk H
         clear H
         have hnb25 := NB311_309.out
         have hnc25 := NB309_311.out
         obtain ⟨hcz26_0, hcz26_1, hcz26_2, hcz26_3⟩ := cz4_ BK311
         obtain ⟨hfz26_0, hfz26_1, hfz26_2, hfz26_3⟩ := fz4_ BK311
         obtain ⟨Ao27, co27, eo27⟩ := Kd.R_slice HO314.out
         subst eo27
         go_wp2_with (first | ((with_reducible refine gate_callee (f := 122) rfl ?_); refine goesL_ (some 36) rfl rfl Try.func122 (by kernel_rfl) rfl #[.slice Ao27 t312.length co27, .int .i64 ((rd_T93 l0_1 x13_1).f0)] rfl mp_q ?_; (with_reducible refine (impl_with.calls k1 _ _ t312 ((rd_T93 l0_1 x13_1).f0) t315 _ ?side1 ?side2 A24.out).mono ?_); (case side1 => repeat (first | exact (Kd.R_reads' HO314.out).2.2 | (with_reducible refine Kd.C_alloc ?_ _) | (with_reducible refine Kd.C_drewN ?_ _) | (with_reducible refine Kd.C_drew ?_))); (case side2 => exact (Kd.R_reads' HO314.out).2.1); rintro e w28 ⟨v316, rfl, ho0, hb⟩; refine ⟨_, rfl, ?_⟩; have HO317 : Aside0 (Kd.R (Kd.int .i64) 3 w28 w.heap.size (fun _ => True) v316 t315) := Aside0.mk (by (rcases ho0 with h_ | ⟨hv_, hr_⟩); (exact Kd.R_mono (Kd.R_lower h_ (below_size (bw_q HB))) (fun _ _ => trivial)); (rw [hv_, hr_]; exact Kd.R_mono (Kd.R_below (kR_q HO314) hb) (fun _ _ => trivial))); replace HO_7 := Aside0.mk (Kd.R_below (kR_q HO_7) hb); replace HO314 := Aside0.mk (Kd.R_below (kR_q HO314) hb); replace BK309 := Aside0.mk (blk_below (g := gb309) (bk_q BK309) hb); replace BK311 := Aside0.mk (blk_below (g := gb311) (bk_q BK311) hb); replace HB := Aside0.mk (below_step (bw_q HB) hb); (try clear hb); (try clear hb2); (try clear hk); (try clear hi); (try clear ho0)))
         go_roundg k1
         case measure => have := HK1.out; omega
         case rel => exact ⟨(t315), (wrap64 (x13_1 + 1)), (by first | rfl | (simp; done) | (simp [*]; done)), H', ⟨by have := HK1.out; omega⟩, ⟨by (with_reducible repeat (first | apply Kd.R_alloc | apply Kd.R_drewN | apply Kd.R_drew)); exact Kd.R_mono HO317.out (fun _ hk => trivial)⟩, ⟨by refine bz_ ?_; exact BK309.out⟩, ⟨bw_q HB⟩⟩
        ·rw [if_neg c23] at H
         have c23b0 : (((rd_T93 l0_1 x13_1).f1) == a1) = false := beq_eq_false_iff_ne.mpr c23
         have c23b1 : (((rd_T93 l0_1 x13_1).f1) != a1) = true := bne_iff_ne.mpr c23
         (first | rw [c23b0] | rw [c23b1] | (simp only [i64_w, i32_w]; first | rw [c23b0] | rw [c23b1]) | skip)
         have H' := Aside0.mk H
         clear H
         go_wp2
         go_roundg k1
         case measure => have := HK1.out; omega
         case rel => exact ⟨(t312), (wrap64 (x13_1 + 1)), (by first | rfl | (simp; done) | (simp [*]; done)), H', ⟨by have := HK1.out; omega⟩, ⟨by (with_reducible repeat (first | apply Kd.R_alloc | apply Kd.R_drewN | apply Kd.R_drew)); exact Kd.R_mono HO314.out (fun _ hk => trivial)⟩, ⟨by refine bz_ ?_; exact BK309.out⟩, ⟨bw_q HB⟩⟩
       ·rw [if_neg c15] at H
        have c15b0 : (((rd_T93 l0_1 x13_1).f0) == a1) = false := beq_eq_false_iff_ne.mpr c15
        have c15b1 : (((rd_T93 l0_1 x13_1).f0) != a1) = true := bne_iff_ne.mpr c15
        by_cases c29 : ((rd_T93 l0_1 x13_1).f1) = a1
        ·rw [if_pos c29] at H
         have c29b0 : (((rd_T93 l0_1 x13_1).f1) == a1) = true := beq_iff_eq.mpr c29
         have c29b1 : (((rd_T93 l0_1 x13_1).f1) != a1) = false := bne_eq_false_iff_eq.mpr c29
         clear c29
         replace H := Option.bind_eq_some_iff.mp H
         obtain ⟨t318, A300, H⟩ := H
         replace H : (impl_NextTo.l0 k1 a1 a2 t318 l0_1 (l0_1.length : Int) (wrap64 (x13_1 + 1))) = some r := H
         have A30 := Aside0.mk A300
         clear A300
         have H' := Aside0.mk H
         clear H
         have hnb31 := NB311_309.out
         have hnc31 := NB309_311.out
         obtain ⟨hcz32_0, hcz32_1, hcz32_2, hcz32_3⟩ := cz4_ BK311
         obtain ⟨hfz32_0, hfz32_1, hfz32_2, hfz32_3⟩ := fz4_ BK311
         obtain ⟨Ao33, co33, eo33⟩ := Kd.R_slice HO_7.out
         subst eo33
         go_wp2_with (first | ((with_reducible refine gate_callee (f := 122) rfl ?_); refine goesL_ (some 36) rfl rfl Try.func122 (by kernel_rfl) rfl #[.slice Ao33 x7_1.length co33, .int .i64 ((rd_T93 l0_1 x13_1).f0)] rfl mp_q ?_; (with_reducible refine (impl_with.calls k1 _ _ x7_1 ((rd_T93 l0_1 x13_1).f0) t318 _ ?side1 ?side2 A30.out).mono ?_); (case side1 => repeat (first | exact (Kd.R_reads' HO_7.out).2.2 | (with_reducible refine Kd.C_alloc ?_ _) | (with_reducible refine Kd.C_drewN ?_ _) | (with_reducible refine Kd.C_drew ?_))); (case side2 => exact (Kd.R_reads' HO_7.out).2.1); rintro e w34 ⟨v319, rfl, ho0, hb⟩; refine ⟨_, rfl, ?_⟩; have HO320 : Aside0 (Kd.R (Kd.int .i64) 3 w34 w.heap.size (fun _ => True) v319 t318) := Aside0.mk (by (rcases ho0 with h_ | ⟨hv_, hr_⟩); (exact Kd.R_mono (Kd.R_lower h_ (below_size (bw_q HB))) (fun _ _ => trivial)); (rw [hv_, hr_]; exact Kd.R_mono (Kd.R_below (kR_q HO_7) hb) (fun _ _ => trivial))); replace HO_7 := Aside0.mk (Kd.R_below (kR_q HO_7) hb); replace BK309 := Aside0.mk (blk_below (g := gb309) (bk_q BK309) hb); replace BK311 := Aside0.mk (blk_below (g := gb311) (bk_q BK311) hb); replace HB := Aside0.mk (below_step (bw_q HB) hb); (try clear hb); (try clear hb2); (try clear hk); (try clear hi); (try clear ho0)))
         go_roundg k1
         case measure => have := HK1.out; omega
         case rel => exact ⟨(t318), (wrap64 (x13_1 + 1)), (by first | rfl | (simp; done) | (simp [*]; done)), H', ⟨by have := HK1.out; omega⟩, ⟨by (with_reducible repeat (first | apply Kd.R_alloc | apply Kd.R_drewN | apply Kd.R_drew)); exact Kd.R_mono HO320.out (fun _ hk => trivial)⟩, ⟨by refine bz_ ?_; exact BK309.out⟩, ⟨bw_q HB⟩⟩
        ·rw [if_neg c29] at H
         have c29b0 : (((rd_T93 l0_1 x13_1).f1) == a1) = false := beq_eq_false_iff_ne.mpr c29
         have c29b1 : (((rd_T93 l0_1 x13_1).f1) != a1) = true := bne_iff_ne.mpr c29
         have H' := Aside0.mk H
         clear H
         have hnb35 := NB311_309.out
         have hnc35 := NB309_311.out
         obtain ⟨hcz36_0, hcz36_1, hcz36_2, hcz36_3⟩ := cz4_ BK311
         obtain ⟨hfz36_0, hfz36_1, hfz36_2, hfz36_3⟩ := fz4_ BK311
         go_wp2
         go_roundg k1
         case measure => have := HK1.out; omega
         case rel => exact ⟨(x7_1), (wrap64 (x13_1 + 1)), (by first | rfl | (simp; done) | (simp [*]; done)), H', ⟨by have := HK1.out; omega⟩, ⟨by (with_reducible repeat (first | apply Kd.R_alloc | apply Kd.R_drewN | apply Kd.R_drew)); exact HO_7.out⟩, ⟨by refine bz_ ?_; exact BK309.out⟩, ⟨bw_q HB⟩⟩
      ·rw [if_neg c14] at H
       have c14b0 : (((rd_T93 l0_1 x13_1).f3) == a2) = false := beq_eq_false_iff_ne.mpr c14
       have c14b1 : (((rd_T93 l0_1 x13_1).f3) != a2) = true := bne_iff_ne.mpr c14
       (first | rw [c14b0] | rw [c14b1] | (simp only [i64_w, i32_w]; first | rw [c14b0] | rw [c14b1]) | skip)
       have H' := Aside0.mk H
       clear H
       go_wp2
       go_roundg k1
       case measure => have := HK1.out; omega
       case rel => exact ⟨(x7_1), (wrap64 (x13_1 + 1)), (by first | rfl | (simp; done) | (simp [*]; done)), H', ⟨by have := HK1.out; omega⟩, ⟨by (with_reducible repeat (first | apply Kd.R_alloc | apply Kd.R_drewN | apply Kd.R_drew)); exact HO_7.out⟩, ⟨by refine bz_ ?_; exact BK309.out⟩, ⟨bw_q HB⟩⟩
     ·rw [if_neg c8] at H
      exact absurd H (by simp)
    ·rw [if_neg c7] at H
     exact absurd H (by simp)
   ·rw [if_neg c6] at H
    have c6b0 : decide (x13_1 < (l0_1.length : Int)) = false := decide_eq_false c6
    clear c6
    obtain rfl := Option.some.inj H
    go_wp2
    go_ret
    exact ⟨_, er_q, by (with_reducible repeat (first | apply Kd.R_alloc | apply Kd.R_drewN | apply Kd.R_drew)); exact HO_7.out, bw_q HB⟩

end Go.Proofs.Ythjmdiggglkeaaa.Q
