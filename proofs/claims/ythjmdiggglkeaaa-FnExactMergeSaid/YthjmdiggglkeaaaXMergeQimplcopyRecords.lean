import Derived.Test.YthjmdiggglkeaaaXMergeQS
import Derived.Test.YthjmdiggglkeaaaXMergeQimplcopyRecord
/- A Go function as a Lean function, and its contract: for every input the Go code comes to what the Lean function tells. -/


namespace Go.Proofs.Ythjmdiggglkeaaa.Q
open Go.RowKit Go.Proofs.YthjmdiggglkeaaaW.PrintWords Go.Proofs.YthjmdiggglkeaaaW.PrintLast Go.Proofs.YthjmdiggglkeaaaW.PrintMore
attribute [local go_sem] max2_int min2_int max_two min_two max_three min_three max_four min_four   -- for this text's walks alone
set_option linter.unusedVariables false
set_option linter.unusedSimpArgs false

/-! ### impl_copyRecords: function 135 -/
def impl_copyRecords.l0 : Nat → List (S61) → List (S61) → Int → Int → Option ((List (S61)))
 | 0, _, _, _, _ => none
 | k + 1, x3, x6, x7, x8 => if x8 < x7 then (if 0 ≤ x8 then (if x8 < (x6.length : Int) then ((impl_copyRecord.f ((rd_T61 x6 x8).f0) ((rd_T61 x6 x8).f1) ((rd_T61 x6 x8).f2) ((rd_T61 x6 x8).f3) ((rd_T61 x6 x8).f4) ((rd_T61 x6 x8).f5) ((rd_T61 x6 x8).f6) ((rd_T61 x6 x8).f7)).bind fun bt581 => (if x3.length < 1759218604441 then (impl_copyRecords.l0 k (x3 ++ [(⟨bt581.1, bt581.2.1, bt581.2.2.1, bt581.2.2.2.1, bt581.2.2.2.2.1, bt581.2.2.2.2.2.1, bt581.2.2.2.2.2.2.1, bt581.2.2.2.2.2.2.2⟩ : S61)]) x6 x7 (wrap64 (x8 + 1))) else (none))) else (none)) else (none)) else (some x3)
def impl_copyRecords.f (k : Nat) (l0 : List (S61)) : Option ((List (S61))) := impl_copyRecords.l0 k ([] : List (S61)) l0 (l0.length : Int) 0
theorem impl_copyRecords.mono_l : ∀ k, (∀ y0 y1 y2 y3, LeO (impl_copyRecords.l0 k y0 y1 y2 y3) (impl_copyRecords.l0 (k + 1) y0 y1 y2 y3))
 | 0 => fun _ _ _ _ r h => by simp [impl_copyRecords.l0] at h
 | k + 1 => by
  have ih0 := impl_copyRecords.mono_l k
  ·intro y0 y1 y2 y3
   unfold impl_copyRecords.l0
   repeat' first
   | (with_reducible exact ih0 _ _ _ _)
   | (with_reducible exact LeO.refl _)
   | (with_reducible exact LeO.none _)
   | (with_reducible refine LeO.ite ?_ ?_)
   | (with_reducible refine LeO.bind ?_ (fun _ => ?_))
   | exact ih0 _ _ _ _
   | exact LeO.none _
   | refine LeO.ite ?_ ?_
   | refine LeO.bind ?_ (fun _ => ?_)
theorem impl_copyRecords.mono : ∀ a0 k, LeO (impl_copyRecords.f k a0) (impl_copyRecords.f (k + 1) a0) := by
 intro a0 k
 have ih0 := impl_copyRecords.mono_l k
 unfold impl_copyRecords.f
 repeat' first
   | (with_reducible exact ih0 _ _ _ _)
   | (with_reducible exact LeO.refl _)
   | (with_reducible exact LeO.none _)
   | (with_reducible refine LeO.ite ?_ ?_)
   | (with_reducible refine LeO.bind ?_ (fun _ => ?_))
   | exact ih0 _ _ _ _
   | exact LeO.none _
   | refine LeO.ite ?_ ?_
   | refine LeO.bind ?_ (fun _ => ?_)
set_option maxHeartbeats 8000000 in
set_option maxRecDepth 100000 in
theorem impl_copyRecords.calls (k : Nat) (A0 : Option Addr) (c0 : Nat) (l0 : List (S61)) (r : List (S61)) (w : World) (hr0 : Kd.C k61 w A0 l0.length l0) (hc0 : l0.length ≤ c0) (h : impl_copyRecords.f k l0 = some r) :
  Calls Try.prog 135 #[.slice A0 l0.length c0] w fun e w' => ∃ v0_ : Value, e = .returned (v0_) ∧ Kd.S k61 61 w' w.heap.size (fun _ => True) v0_ r ∧ Below w.heap.size w w' := by
 have hu61 := Try.underlying61
 have HR0 := Aside0.mk hr0
 have HC0 := Aside0.mk hc0
 clear hr0 hc0
 have HB := Aside0.mk (Below.refl w.heap.size w)
 have H : (impl_copyRecords.l0 k ([] : List (S61)) l0 (l0.length : Int) 0) = some r := h
 clear h
 have H' := Aside0.mk H
 clear H
 go_enter Try.func135, Try.ntmps135
 go_wp2
 go_loopg [3, 8] k (fun kq v3 v8 w' => ∃ (x3_1 : List (S61)) (x8_1 : Int), v8 = .int .i64 x8_1 ∧ Aside0 (impl_copyRecords.l0 kq x3_1 l0 (l0.length : Int) x8_1 = some r) ∧ Aside0 (kq ≤ k) ∧ Aside0 (Kd.S k61 61 w' w.heap.size (fun _ => True) v3 x3_1) ∧ Aside0 (Below w.heap.size w w'))
 case atStart => exact ⟨(([] : List (S61))), (0), (by first | rfl | (simp; done) | (simp [*]; done)), H', ⟨Nat.le_refl _⟩, ⟨by first | exact Kd.S_nil _ _ _ _ _ | exact Kd.N_nil _ _ _ _ _ | exact Kd.V_nil _ _ _ _ _ | exact Kd.Q_nil _ _ _ _ _ | exact Kd.R_nil _ _ _ _ _⟩, ⟨bw_q HB⟩⟩
 case round =>
  clear H'
  try clear c1
  obtain ⟨x3_1, x8_1, rfl, HA, HK1, HO_3, HB⟩ := hrel
  cases gk with
  | zero => exact absurd HA.out (by simp [impl_copyRecords.l0])
  | succ k1 =>
   have H := HA.out
   clear HA
   simp only [impl_copyRecords.l0] at H
   by_cases c2 : x8_1 < (l0.length : Int)
   ·rw [if_pos c2] at H
    have c2b0 : decide (x8_1 < (l0.length : Int)) = true := decide_eq_true c2
    clear c2
    by_cases c3 : 0 ≤ x8_1
    ·rw [if_pos c3] at H
     have c3b0 : decide (0 ≤ x8_1) = true := decide_eq_true c3
     clear c3
     by_cases c4 : x8_1 < (l0.length : Int)
     ·rw [if_pos c4] at H
      have c4b0 : decide (x8_1 < (l0.length : Int)) = true := decide_eq_true c4
      clear c4
      replace H := Option.bind_eq_some_iff.mp H
      obtain ⟨⟨t581, t582, t583, t584, t585, t586, t589, t590⟩, A50, H⟩ := H
      replace H : (if x3_1.length < 1759218604441 then (impl_copyRecords.l0 k1 (x3_1 ++ [(⟨t581, t582, t583, t584, t585, t586, t589, t590⟩ : S61)]) l0 (l0.length : Int) (wrap64 (x8_1 + 1))) else (none)) = some r := H
      have A5 := Aside0.mk A50
      clear A50
      by_cases c6 : x3_1.length < 1759218604441
      ·rw [if_pos c6] at H
       have LMc6 := Aside0.mk c6
       clear c6
       obtain ⟨y591, hy591⟩ : ∃ y_ : List (S61), y_ = (x3_1 ++ [(⟨t581, t582, t583, t584, t585, t586, t589, t590⟩ : S61)]) := ⟨_, rfl⟩
       replace H : (impl_copyRecords.l0 k1 y591 l0 (l0.length : Int) (wrap64 (x8_1 + 1))) = some r := by first | (rw [hy591]; with_reducible exact H) | (have H2_ := (Option.bind_some _ _).symm.trans H; rw [hy591]; with_reducible exact H2_) | (have H2_ := (Option.bind_some _ _).symm.trans H; with_reducible exact H2_) | with_reducible exact H | (rw [hy591]; exact H) | exact H
       have Ny591 := Aside0.mk hy591
       clear hy591
       have H' := Aside0.mk H
       clear H
       have p579 : 0 ≤ (x8_1 : Int) := of_decide_eq_true (by first | (with_reducible assumption) | assumption)
       have q579 : x8_1 < (l0.length : Int) := of_decide_eq_true (by first | (with_reducible assumption) | assumption)
       obtain ⟨ad579, A579_5, c579_5, e579, hx579_0, hx579_1, hx579_2, hx579_3, hx579_4, hx579_5, hx579_6, hx579_7, hl579_5, hi579_5⟩ := at_T61 HR0.out x8_1 p579 q579
       cases e579
       replace hx579_0 := (HB.out.cell (World.block_lt_of_cell? w _ hx579_0)).trans hx579_0
       replace hx579_1 := (HB.out.cell (World.block_lt_of_cell? w _ hx579_1)).trans hx579_1
       replace hx579_2 := (HB.out.cell (World.block_lt_of_cell? w _ hx579_2)).trans hx579_2
       replace hx579_3 := (HB.out.cell (World.block_lt_of_cell? w _ hx579_3)).trans hx579_3
       replace hx579_4 := (HB.out.cell (World.block_lt_of_cell? w _ hx579_4)).trans hx579_4
       replace hx579_5 := (HB.out.cell (World.block_lt_of_cell? w _ hx579_5)).trans hx579_5
       replace hx579_6 := (HB.out.cell (World.block_lt_of_cell? w _ hx579_6)).trans hx579_6
       replace hx579_7 := (HB.out.cell (World.block_lt_of_cell? w _ hx579_7)).trans hx579_7
       have HR579_5 := Aside0.mk hi579_5
       have HC579_5 := Aside0.mk hl579_5
       clear hi579_5 hl579_5
       replace p579 := eq_true p579
       replace q579 := eq_true q579
       go_wp2_with (first | ((with_reducible refine gate_dst (N := 5) rfl ?_); refine box_event ?hg (N := 5) ?hd (cs := #[.int .i64 0, .int .i64 0, .int .i64 0, .int .i64 0, .int .i64 0, .slice none 0 0, .int .i64 0, .bool false]) (t := 61) ?hr ?_; (case hd => rfl); (case hg => rfl); (case hr => first | (go_simp; done) | (go_simp; rfl)); intro gb580 hg w7 hbox hb; have n0_ := Aside0.mk (Kd.S_below (Kd.S_elderB (kS_q HO_3) gb580 (Nat.le_of_eq hg.symm)) hb); have n1_ := Aside0.mk (below_step (bw_q HB) hb); have n2_ := Aside0.mk (hbox); have n3_ := Aside0.mk ((by rw [hg]; exact (below_size (bw_q HB)) : w.heap.size ≤ gb580)); have n4_ := Aside0.mk ((by rw [hg]; exact (below_size (bw_q HB)) : w.heap.size ≤ gb580)); clear HO_3; clear HB; have HO_3 := n0_; have HB := n1_; have BK580 := n2_; have GW580 := n3_; have GE580 := n4_; clear n0_ n1_ n2_ n3_ n4_; clear hb hbox hg; have hcz8_0 : w7.cell? ⟨gb580, 0, none⟩ = some (.int .i64 0) := (blk_cell BK580.out 0).trans rfl; have hcz8_1 : w7.cell? ⟨gb580, 1, none⟩ = some (.int .i64 0) := (blk_cell BK580.out 1).trans rfl; have hcz8_2 : w7.cell? ⟨gb580, 2, none⟩ = some (.int .i64 0) := (blk_cell BK580.out 2).trans rfl; have hcz8_3 : w7.cell? ⟨gb580, 3, none⟩ = some (.int .i64 0) := (blk_cell BK580.out 3).trans rfl; have hcz8_4 : w7.cell? ⟨gb580, 4, none⟩ = some (.int .i64 0) := (blk_cell BK580.out 4).trans rfl; have hcz8_5 : w7.cell? ⟨gb580, 5, none⟩ = some (.slice none 0 0) := (blk_cell BK580.out 5).trans rfl; have hcz8_6 : w7.cell? ⟨gb580, 6, none⟩ = some (.int .i64 0) := (blk_cell BK580.out 6).trans rfl; have hcz8_7 : w7.cell? ⟨gb580, 7, none⟩ = some (.bool false) := (blk_cell BK580.out 7).trans rfl; have hfz8_0 := blk_frozen BK580.out 0; have hfz8_1 := blk_frozen BK580.out 1; have hfz8_2 := blk_frozen BK580.out 2; have hfz8_3 := blk_frozen BK580.out 3; have hfz8_4 := blk_frozen BK580.out 4; have hfz8_5 := blk_frozen BK580.out 5; have hfz8_6 := blk_frozen BK580.out 6; have hfz8_7 := blk_frozen BK580.out 7) | ((with_reducible refine gate_callee (f := 108) rfl ?_); refine goesL_ (some 14) rfl rfl Try.func108 (by kernel_rfl) rfl #[.agg #[.int .i64 ((rd_T61 l0 x8_1).f0), .int .i64 ((rd_T61 l0 x8_1).f1), .int .i64 ((rd_T61 l0 x8_1).f2), .int .i64 ((rd_T61 l0 x8_1).f3), .int .i64 ((rd_T61 l0 x8_1).f4), .slice A579_5 ((rd_T61 l0 x8_1).f5).length c579_5, .int .i64 ((rd_T61 l0 x8_1).f6), .bool ((rd_T61 l0 x8_1).f7)]] rfl mp_q ?_; (with_reducible refine (impl_copyRecord.calls ((rd_T61 l0 x8_1).f0) ((rd_T61 l0 x8_1).f1) ((rd_T61 l0 x8_1).f2) ((rd_T61 l0 x8_1).f3) ((rd_T61 l0 x8_1).f4) _ _ ((rd_T61 l0 x8_1).f5) ((rd_T61 l0 x8_1).f6) ((rd_T61 l0 x8_1).f7) t581 t582 t583 t584 t585 t586 t589 t590 _ ?side1 ?side2 A5.out).mono ?_); (case side1 => exact Kd.C_below HR579_5.out (bw_q HB)); (case side2 => exact HC579_5.out); rintro e w9 ⟨v587, rfl, ho0, hb⟩; refine ⟨_, rfl, ?_⟩; have hs_v587 : (v587 : Value).oneCell' = true := (by first | (obtain ⟨A_, c_, e_⟩ := Kd.R_slice ho0; simp [e_, Value.oneCell']) | (obtain ⟨A_, c_, e_⟩ := Kd.S_slice ho0; simp [e_, Value.oneCell']) | (obtain ⟨A_, c_, e_⟩ := Kd.N_slice ho0; simp [e_, Value.oneCell']) | (obtain ⟨A_, c_, e_⟩ := Kd.V_slice ho0; simp [e_, Value.oneCell'])); have hst_v587 := fun (w_ : World) (a_ : Addr) m_ => run_store Try.prog w_ a_ v587 m_ hs_v587; have n0_ := Aside0.mk (Kd.S_elder' (by (with_reducible repeat (first | apply Kd.S_alloc | apply Kd.S_drewN | apply Kd.S_drew)); exact (Kd.S_mono (Kd.S_far (p := ⟨gb580, 7, none⟩) (Kd.S_far (p := ⟨gb580, 6, none⟩) (Kd.S_far (p := ⟨gb580, 5, none⟩) (Kd.S_far (p := ⟨gb580, 4, none⟩) (Kd.S_far (p := ⟨gb580, 3, none⟩) (Kd.S_far (p := ⟨gb580, 2, none⟩) (Kd.S_far (p := ⟨gb580, 1, none⟩) (Kd.S_far (p := ⟨gb580, 0, none⟩) (Kd.S_mono HO_3.out (fun k_ hk => (⟨hk, hk.2⟩ : _ ∧ k_ ≠ gb580))) (fun _ hk => hk.2) (.int .i64 ((rd_T61 l0 x8_1).f0))) (fun _ hk => hk.2) (.int .i64 ((rd_T61 l0 x8_1).f1))) (fun _ hk => hk.2) (.int .i64 ((rd_T61 l0 x8_1).f2))) (fun _ hk => hk.2) (.int .i64 ((rd_T61 l0 x8_1).f3))) (fun _ hk => hk.2) (.int .i64 ((rd_T61 l0 x8_1).f4))) (fun _ hk => hk.2) (.slice A579_5 ((rd_T61 l0 x8_1).f5).length c579_5)) (fun _ hk => hk.2) (.int .i64 ((rd_T61 l0 x8_1).f6))) (fun _ hk => hk.2) (.bool ((rd_T61 l0 x8_1).f7))) (fun _ h_ => h_.1))) (Kd.R_base ho0) hb); have n1_ := Aside0.mk (Kd.R_lower ho0 (below_size (bw_q HB))); have n2_ := Aside0.mk (blk_below (g := gb580) (o := .cells #[.int .i64 ((rd_T61 l0 x8_1).f0), .int .i64 ((rd_T61 l0 x8_1).f1), .int .i64 ((rd_T61 l0 x8_1).f2), .int .i64 ((rd_T61 l0 x8_1).f3), .int .i64 ((rd_T61 l0 x8_1).f4), .slice A579_5 ((rd_T61 l0 x8_1).f5).length c579_5, .int .i64 ((rd_T61 l0 x8_1).f6), .bool ((rd_T61 l0 x8_1).f7)] 61 (0, 0)) (by (with_reducible repeat (first | refine blk_drewN ?_ _ | refine blk_drew ?_ | refine blk_alloc ?_ _)); refine blk_put (cs := #[.int .i64 ((rd_T61 l0 x8_1).f0), .int .i64 ((rd_T61 l0 x8_1).f1), .int .i64 ((rd_T61 l0 x8_1).f2), .int .i64 ((rd_T61 l0 x8_1).f3), .int .i64 ((rd_T61 l0 x8_1).f4), .slice A579_5 ((rd_T61 l0 x8_1).f5).length c579_5, .int .i64 ((rd_T61 l0 x8_1).f6), .bool false]) ?_ 7 _ rfl; (with_reducible repeat (first | refine blk_drewN ?_ _ | refine blk_drew ?_ | refine blk_alloc ?_ _)); refine blk_put (cs := #[.int .i64 ((rd_T61 l0 x8_1).f0), .int .i64 ((rd_T61 l0 x8_1).f1), .int .i64 ((rd_T61 l0 x8_1).f2), .int .i64 ((rd_T61 l0 x8_1).f3), .int .i64 ((rd_T61 l0 x8_1).f4), .slice A579_5 ((rd_T61 l0 x8_1).f5).length c579_5, .int .i64 0, .bool false]) ?_ 6 _ rfl; (with_reducible repeat (first | refine blk_drewN ?_ _ | refine blk_drew ?_ | refine blk_alloc ?_ _)); refine blk_put (cs := #[.int .i64 ((rd_T61 l0 x8_1).f0), .int .i64 ((rd_T61 l0 x8_1).f1), .int .i64 ((rd_T61 l0 x8_1).f2), .int .i64 ((rd_T61 l0 x8_1).f3), .int .i64 ((rd_T61 l0 x8_1).f4), .slice none 0 0, .int .i64 0, .bool false]) ?_ 5 _ rfl; (with_reducible repeat (first | refine blk_drewN ?_ _ | refine blk_drew ?_ | refine blk_alloc ?_ _)); refine blk_put (cs := #[.int .i64 ((rd_T61 l0 x8_1).f0), .int .i64 ((rd_T61 l0 x8_1).f1), .int .i64 ((rd_T61 l0 x8_1).f2), .int .i64 ((rd_T61 l0 x8_1).f3), .int .i64 0, .slice none 0 0, .int .i64 0, .bool false]) ?_ 4 _ rfl; (with_reducible repeat (first | refine blk_drewN ?_ _ | refine blk_drew ?_ | refine blk_alloc ?_ _)); refine blk_put (cs := #[.int .i64 ((rd_T61 l0 x8_1).f0), .int .i64 ((rd_T61 l0 x8_1).f1), .int .i64 ((rd_T61 l0 x8_1).f2), .int .i64 0, .int .i64 0, .slice none 0 0, .int .i64 0, .bool false]) ?_ 3 _ rfl; (with_reducible repeat (first | refine blk_drewN ?_ _ | refine blk_drew ?_ | refine blk_alloc ?_ _)); refine blk_put (cs := #[.int .i64 ((rd_T61 l0 x8_1).f0), .int .i64 ((rd_T61 l0 x8_1).f1), .int .i64 0, .int .i64 0, .int .i64 0, .slice none 0 0, .int .i64 0, .bool false]) ?_ 2 _ rfl; (with_reducible repeat (first | refine blk_drewN ?_ _ | refine blk_drew ?_ | refine blk_alloc ?_ _)); refine blk_put (cs := #[.int .i64 ((rd_T61 l0 x8_1).f0), .int .i64 0, .int .i64 0, .int .i64 0, .int .i64 0, .slice none 0 0, .int .i64 0, .bool false]) ?_ 1 _ rfl; (with_reducible repeat (first | refine blk_drewN ?_ _ | refine blk_drew ?_ | refine blk_alloc ?_ _)); refine blk_put (cs := #[.int .i64 0, .int .i64 0, .int .i64 0, .int .i64 0, .int .i64 0, .slice none 0 0, .int .i64 0, .bool false]) ?_ 0 _ rfl; (with_reducible repeat (first | refine blk_drewN ?_ _ | refine blk_drew ?_ | refine blk_alloc ?_ _)); exact BK580.out) hb); have n3_ := Aside0.mk (below_step (bw_q HB) hb); clear HO_3; clear BK580; clear HB; have HO_3 := n0_; have HO588 := n1_; have BK580 := n2_; have HB := n3_; clear n0_ n1_ n2_ n3_; (try clear hb); (try clear hb2); (try clear hk); (try clear hi); (try clear ho0); obtain ⟨Ao11, co11, eo11⟩ := Kd.R_slice HO588.out; subst eo11) | ((with_reducible refine gate_builtin (b := .append) (xs := #[.tmp 12, .tmp 15]) rfl ?_); at_builtin; refine Kd.S_append k61 (w0 := w) w.heap.size rfl (.tmp 12) (.tmp 15) 41 61 (.agg #[(.int .i64 0), (.int .i64 0), (.int .i64 0), (.int .i64 0), (.int .i64 0), (.slice none 0 0), (.int .i64 0), (.bool false)]) 80 rfl Try.underlying41 info61 rfl (by decide) (by omega) u3 x3_1 (⟨t581, t582, t583, t584, t585, t586, t589, t590⟩ : S61) [.int .i64 t581, .int .i64 t582, .int .i64 t583, .int .i64 t584, .int .i64 t585, .slice Ao11 t586.length co11, .int .i64 t589, .bool t590] (fun k_ => k_ ≠ gb580) (fun k_ => some k_ = (.slice Ao11 t586.length co11 : Value).ownBlock) rfl rfl ?aP (fun k_ hk_ => ((Kd.R_mono (ok' := fun k_ => ((fun k_ => k_ ≠ gb580)) k_ ∧ some k_ ≠ (u3 : Value).ownBlock) (Kd.R_types (Kd.R_apart' (HO588.out) (Kd.S_typed HO_3.out) (by decide)) BK580.out (by decide)) (fun k_ hk => ⟨hk.2, hk.1.2⟩))).1 k_ hk_.symm) ?aF ?aO ?aB ?aS ?aL ?_; (case aP => exact k61_mkM _ _ _ (⟨t581, t582, t583, t584, t585, t586, t589, t590⟩ : S61) (Kd.R_mono (Kd.R_tight rfl (Kd.R_mono (ok' := fun k_ => ((fun k_ => k_ ≠ gb580)) k_ ∧ some k_ ≠ (u3 : Value).ownBlock) (Kd.R_types (Kd.R_apart' (HO588.out) (Kd.S_typed HO_3.out) (by decide)) BK580.out (by decide)) (fun k_ hk => ⟨hk.2, hk.1.2⟩))) (fun _ h_ => h_))); (case aB => exact (bw_q HB)); (case aF => exact (fun k_ hk => Kd.freshB (g := gb580) (o := .cells #[.int .i64 ((rd_T61 l0 x8_1).f0), .int .i64 ((rd_T61 l0 x8_1).f1), .int .i64 ((rd_T61 l0 x8_1).f2), .int .i64 ((rd_T61 l0 x8_1).f3), .int .i64 ((rd_T61 l0 x8_1).f4), .slice A579_5 ((rd_T61 l0 x8_1).f5).length c579_5, .int .i64 ((rd_T61 l0 x8_1).f6), .bool ((rd_T61 l0 x8_1).f7)] 61 (0, 0)) (bk_q BK580) k_ hk)); (case aO => exact (by (with_reducible repeat (first | apply Kd.S_alloc | apply Kd.S_drewN | apply Kd.S_drew)); exact Kd.S_mono HO_3.out (fun k_ hk => ⟨hk.1.2, fun e_ => hk.2 e_⟩))); (case aS => exact (below_size (bw_q HB))); (case aL => have := LMc6.out; omega); intro v592 w10 ho hb hg hat; rw [← Ny591.out] at ho; have n0_ := Aside0.mk (blk_grown (g := gb580) (o := .cells #[.int .i64 ((rd_T61 l0 x8_1).f0), .int .i64 ((rd_T61 l0 x8_1).f1), .int .i64 ((rd_T61 l0 x8_1).f2), .int .i64 ((rd_T61 l0 x8_1).f3), .int .i64 ((rd_T61 l0 x8_1).f4), .slice A579_5 ((rd_T61 l0 x8_1).f5).length c579_5, .int .i64 ((rd_T61 l0 x8_1).f6), .bool ((rd_T61 l0 x8_1).f7)] 61 (0, 0)) (bk_q BK580) hg (Kd.S_away HO_3.out (fun _ hk => hk.1.2))); have n1_ := Aside0.mk (hb); have n2_ := Aside0.mk (ho); clear BK580; clear HB; clear HO_3; clear HO588; have BK580 := n0_; have HB := n1_; have HO593 := n2_; clear n0_ n1_ n2_; clear ho hb hg hat))
       go_roundg k1
       case measure => have := HK1.out; omega
       case rel => exact ⟨(y591), (wrap64 (x8_1 + 1)), (by first | rfl | (simp; done) | (simp [*]; done)), H', ⟨by have := HK1.out; omega⟩, ⟨by (with_reducible repeat (first | apply Kd.S_alloc | apply Kd.S_drewN | apply Kd.S_drew)); exact Kd.S_mono HO593.out (fun _ hk => trivial)⟩, ⟨bw_q HB⟩⟩
      ·rw [if_neg c6] at H
       exact absurd H (by simp)
     ·rw [if_neg c4] at H
      exact absurd H (by simp)
    ·rw [if_neg c3] at H
     exact absurd H (by simp)
   ·rw [if_neg c2] at H
    have c2b0 : decide (x8_1 < (l0.length : Int)) = false := decide_eq_false c2
    clear c2
    obtain rfl := Option.some.inj H
    go_wp2
    go_ret
    exact ⟨_, er_q, by (with_reducible repeat (first | apply Kd.S_alloc | apply Kd.S_drewN | apply Kd.S_drew)); exact HO_3.out, bw_q HB⟩

end Go.Proofs.Ythjmdiggglkeaaa.Q
