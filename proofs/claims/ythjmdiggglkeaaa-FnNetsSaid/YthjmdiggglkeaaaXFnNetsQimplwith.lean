import Derived.Test.YthjmdiggglkeaaaXFnNetsQimplless
import Derived.Test.YthjmdiggglkeaaaXFnNetsQspecl03Put
import Derived.Test.YthjmdiggglkeaaaXFnNetsQspecl03Net
/- A Go function as a Lean function, and its contract: for every input the Go code comes to what the Lean function tells. -/




namespace Go.Proofs.Ythjmdiggglkeaaa.Q
open Go.RowKit Go.Proofs.YthjmdiggglkeaaaW.PrintWords Go.Proofs.YthjmdiggglkeaaaW.PrintLast Go.Proofs.YthjmdiggglkeaaaW.PrintMore
attribute [local go_sem] max2_int min2_int max_two min_two max_three min_three max_four min_four   -- for this text's walks alone
set_option linter.unusedVariables false
set_option linter.unusedSimpArgs false

/-! ### spec_DrawRightNet: function 60 -/
mutual
def spec_DrawRightNet.l0 : Nat → List Bool → List Bool → Int → List Int → Int → Int → Int → List (S93) → List (S102) → Option (Int × (List (S93)) × (List (S102)) × List Bool × List Bool)
 | 0, _, _, _, _, _, _, _, _, _ => none
 | k + 1, x7, x8, x9, x1667000, x1667001, x1667002, x1677000, x1677001, x1677002 => if x9 < (x1677001.length : Int) then ((spec_l01Once.f x1667000 x1667001 x1667002 6).bind fun bt1683 => (if x7.length < 140737488355328 then (spec_DrawRightNet.l0 k (x7 ++ [!bt1683.1]) x8 (wrap64 (x9 + 1)) x1667000 bt1683.2.1 bt1683.2.2 x1677000 x1677001 x1677002) else (none))) else (spec_DrawRightNet.l1 k x7 x8 0 x1667000 x1667001 x1667002 x1677000 x1677001 x1677002)
def spec_DrawRightNet.l1 : Nat → List Bool → List Bool → Int → List Int → Int → Int → Int → List (S93) → List (S102) → Option (Int × (List (S93)) × (List (S102)) × List Bool × List Bool)
 | 0, _, _, _, _, _, _, _, _, _ => none
 | k + 1, x7, x8, x10, x1667000, x1667001, x1667002, x1677000, x1677001, x1677002 => if x10 < x1677000 then ((spec_l01Once.f x1667000 x1667001 x1667002 8).bind fun bt1689 => (if x8.length < 140737488355328 then (spec_DrawRightNet.l1 k x7 (x8 ++ [!bt1689.1]) (wrap64 (x10 + 1)) x1667000 bt1689.2.1 bt1689.2.2 x1677000 x1677001 x1677002) else (none))) else (some (x1677000, x1677001, x1677002, x7, x8))
end
def spec_DrawRightNet.f (k : Nat) (l0 : List Int) : Option (Int × (List (S93)) × (List (S102)) × List Bool × List Bool) := (spec_l01New.f k l0).bind fun bt1663 => ((spec_l03Net.f k bt1663.1 bt1663.2.1 bt1663.2.2).bind fun bt1667 => (spec_DrawRightNet.l0 k (([] : List Bool)) (([] : List Bool)) 0 bt1663.1 bt1667.2.2.2.1 bt1667.2.2.2.2 bt1667.1 bt1667.2.1 bt1667.2.2.1))
theorem spec_DrawRightNet.mono_l : ∀ k, (∀ y0 y1 y2 y3 y4 y5 y6 y7 y8, LeO (spec_DrawRightNet.l0 k y0 y1 y2 y3 y4 y5 y6 y7 y8) (spec_DrawRightNet.l0 (k + 1) y0 y1 y2 y3 y4 y5 y6 y7 y8)) ∧ (∀ y0 y1 y2 y3 y4 y5 y6 y7 y8, LeO (spec_DrawRightNet.l1 k y0 y1 y2 y3 y4 y5 y6 y7 y8) (spec_DrawRightNet.l1 (k + 1) y0 y1 y2 y3 y4 y5 y6 y7 y8))
 | 0 => ⟨fun _ _ _ _ _ _ _ _ _ r h => by simp [spec_DrawRightNet.l0] at h, fun _ _ _ _ _ _ _ _ _ r h => by simp [spec_DrawRightNet.l1] at h⟩
 | k + 1 => by
  obtain ⟨ih0, ih1⟩ := spec_DrawRightNet.mono_l k
  refine ⟨?_, ?_⟩
  ·intro y0 y1 y2 y3 y4 y5 y6 y7 y8
   unfold spec_DrawRightNet.l0
   repeat' first
   | (with_reducible exact ih0 _ _ _ _ _ _ _ _ _)
   | (with_reducible exact ih1 _ _ _ _ _ _ _ _ _)
   | (with_reducible exact spec_l01New.mono _ _)
   | (with_reducible exact spec_l03Net.mono _ _ _ _)
   | (with_reducible exact LeO.refl _)
   | (with_reducible exact LeO.none _)
   | (with_reducible refine LeO.ite ?_ ?_)
   | (with_reducible refine LeO.bind ?_ (fun _ => ?_))
   | exact ih0 _ _ _ _ _ _ _ _ _
   | exact ih1 _ _ _ _ _ _ _ _ _
   | exact spec_l01New.mono _ _
   | exact spec_l03Net.mono _ _ _ _
   | exact LeO.none _
   | refine LeO.ite ?_ ?_
   | refine LeO.bind ?_ (fun _ => ?_)
  ·intro y0 y1 y2 y3 y4 y5 y6 y7 y8
   unfold spec_DrawRightNet.l1
   repeat' first
   | (with_reducible exact ih0 _ _ _ _ _ _ _ _ _)
   | (with_reducible exact ih1 _ _ _ _ _ _ _ _ _)
   | (with_reducible exact spec_l01New.mono _ _)
   | (with_reducible exact spec_l03Net.mono _ _ _ _)
   | (with_reducible exact LeO.refl _)
   | (with_reducible exact LeO.none _)
   | (with_reducible refine LeO.ite ?_ ?_)
   | (with_reducible refine LeO.bind ?_ (fun _ => ?_))
   | exact ih0 _ _ _ _ _ _ _ _ _
   | exact ih1 _ _ _ _ _ _ _ _ _
   | exact spec_l01New.mono _ _
   | exact spec_l03Net.mono _ _ _ _
   | exact LeO.none _
   | refine LeO.ite ?_ ?_
   | refine LeO.bind ?_ (fun _ => ?_)
theorem spec_DrawRightNet.mono : ∀ a0 k, LeO (spec_DrawRightNet.f k a0) (spec_DrawRightNet.f (k + 1) a0) := by
 intro a0 k
 obtain ⟨ih0, ih1⟩ := spec_DrawRightNet.mono_l k
 unfold spec_DrawRightNet.f
 repeat' first
   | (with_reducible exact ih0 _ _ _ _ _ _ _ _ _)
   | (with_reducible exact ih1 _ _ _ _ _ _ _ _ _)
   | (with_reducible exact spec_l01New.mono _ _)
   | (with_reducible exact spec_l03Net.mono _ _ _ _)
   | (with_reducible exact LeO.refl _)
   | (with_reducible exact LeO.none _)
   | (with_reducible refine LeO.ite ?_ ?_)
   | (with_reducible refine LeO.bind ?_ (fun _ => ?_))
   | exact ih0 _ _ _ _ _ _ _ _ _
   | exact ih1 _ _ _ _ _ _ _ _ _
   | exact spec_l01New.mono _ _
   | exact spec_l03Net.mono _ _ _ _
   | exact LeO.none _
   | refine LeO.ite ?_ ?_
   | refine LeO.bind ?_ (fun _ => ?_)
set_option maxHeartbeats 8000000 in
set_option maxRecDepth 100000 in
theorem spec_DrawRightNet.calls (k : Nat) (A0 : Option Addr) (c0 : Nat) (l0 : List Int) (r1 : Int) (r2 : List (S93)) (r3 : List (S102)) (r4 : List Bool) (r5 : List Bool) (w : World) (hr0 : Kd.C (Kd.int .u8) w A0 l0.length l0) (hc0 : l0.length ≤ c0) (h : spec_DrawRightNet.f k l0 = some (r1, r2, r3, r4, r5)) :
  Calls Try.prog 60 #[.slice A0 l0.length c0] w fun e w' => ∃ v1_ v2_ v3_ v4_ : Value, e = .returned (.tuple #[.agg #[.int .i64 r1, v1_, v2_], v3_, v4_]) ∧ Kd.R k93 93 w' w.heap.size (fun _ => True) v1_ r2 ∧ Kd.R k102 102 w' w.heap.size (fun _ => True) v2_ r3 ∧ Kd.R Kd.bool 4 w' w.heap.size (fun k_ => some k_ ≠ (v4_ : Value).ownBlock) v3_ r4 ∧ Kd.R Kd.bool 4 w' w.heap.size (fun k_ => some k_ ≠ (v3_ : Value).ownBlock) v4_ r5 ∧ Below w.heap.size w w' := by
 have hu31 := Try.underlying31
 have HR0 := Aside0.mk hr0
 have HC0 := Aside0.mk hc0
 clear hr0 hc0
 have HB := Aside0.mk (Below.refl w.heap.size w)
 have H : ((spec_l01New.f k l0).bind fun bt1663 => ((spec_l03Net.f k bt1663.1 bt1663.2.1 bt1663.2.2).bind fun bt1667 => (spec_DrawRightNet.l0 k (([] : List Bool)) (([] : List Bool)) 0 bt1663.1 bt1667.2.2.2.1 bt1667.2.2.2.2 bt1667.1 bt1667.2.1 bt1667.2.2.1))) = some (r1, r2, r3, r4, r5) := h
 clear h
 replace H := Option.bind_eq_some_iff.mp H
 obtain ⟨⟨t1663, t1664, t1665⟩, A20, H⟩ := H
 replace H : ((spec_l03Net.f k t1663 t1664 t1665).bind fun bt1667 => (spec_DrawRightNet.l0 k (([] : List Bool)) (([] : List Bool)) 0 t1663 bt1667.2.2.2.1 bt1667.2.2.2.2 bt1667.1 bt1667.2.1 bt1667.2.2.1)) = some (r1, r2, r3, r4, r5) := H
 have A2 := Aside0.mk A20
 clear A20
 replace H := Option.bind_eq_some_iff.mp H
 obtain ⟨⟨t1667, t1668, t1671, t1674, t1675⟩, A30, H⟩ := H
 replace H : (spec_DrawRightNet.l0 k (([] : List Bool)) (([] : List Bool)) 0 t1663 t1674 t1675 t1667 t1668 t1671) = some (r1, r2, r3, r4, r5) := H
 have A3 := Aside0.mk A30
 clear A30
 obtain ⟨y1677, hy1677⟩ : ∃ y_ : List Bool, y_ = (([] : List Bool)) := ⟨_, rfl⟩
 replace H : (spec_DrawRightNet.l0 k y1677 (([] : List Bool)) 0 t1663 t1674 t1675 t1667 t1668 t1671) = some (r1, r2, r3, r4, r5) := by first | (rw [hy1677]; with_reducible exact H) | (have H2_ := (Option.bind_some _ _).symm.trans H; rw [hy1677]; with_reducible exact H2_) | (have H2_ := (Option.bind_some _ _).symm.trans H; with_reducible exact H2_) | with_reducible exact H | (rw [hy1677]; exact H) | exact H
 have Ny1677 := Aside0.mk hy1677
 clear hy1677
 obtain ⟨y1680, hy1680⟩ : ∃ y_ : List Bool, y_ = (([] : List Bool)) := ⟨_, rfl⟩
 replace H : (spec_DrawRightNet.l0 k y1677 y1680 0 t1663 t1674 t1675 t1667 t1668 t1671) = some (r1, r2, r3, r4, r5) := by first | (rw [hy1680]; with_reducible exact H) | (have H2_ := (Option.bind_some _ _).symm.trans H; rw [hy1680]; with_reducible exact H2_) | (have H2_ := (Option.bind_some _ _).symm.trans H; with_reducible exact H2_) | with_reducible exact H | (rw [hy1680]; exact H) | exact H
 have Ny1680 := Aside0.mk hy1680
 clear hy1680
 have H' := Aside0.mk H
 clear H
 go_enter Try.func60, Try.ntmps60
 go_wp2_with (first | ((with_reducible refine gate_dst (N := 2) rfl ?_); refine box_q 2 #[.int .i64 0, .slice none 0 0, .slice none 0 0] 31 ?_; intro gb1662 hg w4 hbox hb; have BK1662 := Aside0.mk (hbox); have GW1662 := Aside0.mk ((by rw [hg]; exact (below_size (bw_q HB)) : w.heap.size ≤ gb1662)); have GE1662 := Aside0.mk ((by rw [hg]; exact (below_size (bw_q HB)) : w.heap.size ≤ gb1662)); replace HB := Aside0.mk (below_step (bw_q HB) hb); clear hb hbox hg) | ((with_reducible refine gate_callee (f := 114) rfl ?_); refine goesL_ (some 12) rfl rfl Try.func114 (by kernel_rfl) rfl #[.slice A0 l0.length c0] rfl mp_q ?_; (with_reducible refine (spec_l01New.calls k _ _ l0 t1663 t1664 t1665 w _ ?side1 ?side2 ?side3 A2.out).mono ?_); (case side1 => repeat (first | (with_reducible first | exact HB.out | apply below_alloc | apply pw_below_drewN | apply below_drew1 | refine below_set ?_ GE1662.out) | exact HB.out)); (case side2 => exact HR0.out); (case side3 => exact HC0.out); rintro e w5 ⟨g1666, rfl, hi, hb, hb2⟩; refine ⟨_, rfl, ?_⟩; replace HB := Aside0.mk (hb); have HI1666 := Aside0.mk (hi); have NB1666_1662 := Aside0.mk (IsS144.ne_blk hi (blk_below (g := gb1662) (bk_q BK1662) hb2) (by decide)); have NB1662_1666 := Aside0.mk (Ne.symm (IsS144.ne_blk hi (blk_below (g := gb1662) (bk_q BK1662) hb2) (by decide))); replace BK1662 := Aside0.mk (blk_below (g := gb1662) (bk_q BK1662) hb2); (try clear hb); (try clear hb2); (try clear hk); (try clear hi)) | ((with_reducible refine gate_callee (f := 120) rfl ?_); refine goesL_ (some 14) rfl rfl Try.func120 (by kernel_rfl) rfl #[.pointer (some ⟨g1666, 0, none⟩)] rfl mp_q ?_; (with_reducible refine (spec_l03Net.calls k g1666 t1663 t1664 t1665 t1667 t1668 t1671 t1674 t1675 w _ ?side1 ?side2 A3.out).mono ?_); (case side1 => repeat (first | (with_reducible first | exact HI1666.out | apply IsS144.alloc | apply IsS144.drewN | apply IsS144.drew | apply IsS144.set_1 | apply IsS144.set_2 | refine IsS144.far ?_ NB1666_1662.out _) | exact HI1666.out)); (case side2 => repeat (first | (with_reducible first | exact HB.out | apply below_alloc | apply pw_below_drewN | apply below_drew1 | refine below_set ?_ (IsS144.ge HI1666.out) | refine below_set ?_ GE1662.out) | exact HB.out)); rintro e w6 ⟨v1669, v1672, rfl, ho0, ho1, hi, hb, hk⟩; refine ⟨_, rfl, ?_⟩; replace BK1662 := Aside0.mk (KeepBut.blk hk (g' := gb1662) (o := .cells #[.int .i64 0, .slice none 0 0, .slice none 0 0] 31 (0, 0)) (bk_q BK1662) NB1662_1666.out (by simp)); have HO1670 := Aside0.mk (Kd.R_lower ho0 (below_size (by repeat (first | (with_reducible first | exact HB.out | apply below_alloc | apply pw_below_drewN | apply below_drew1 | refine below_set ?_ (IsS144.ge HI1666.out) | refine below_set ?_ GE1662.out) | exact HB.out)))); have HO1673 := Aside0.mk (Kd.R_lower ho1 (below_size (by repeat (first | (with_reducible first | exact HB.out | apply below_alloc | apply pw_below_drewN | apply below_drew1 | refine below_set ?_ (IsS144.ge HI1666.out) | refine below_set ?_ GE1662.out) | exact HB.out)))); replace HB := Aside0.mk (hb); replace HI1666 := Aside0.mk (hi); (try clear hb); (try clear hb2); (try clear hk); (try clear hi); (try clear ho0); (try clear ho1)) | ((with_reducible refine gate_dst (N := 6) rfl ?_); refine box_q 6 #[.int .i64 0, .slice none 0 0, .slice none 0 0] 31 ?_; intro gb1676 hg w7 hbox hb; replace HO1670 := Aside0.mk (Kd.R_below (kR_q HO1670) hb); replace HO1673 := Aside0.mk (Kd.R_below (kR_q HO1673) hb); have BK1676 := Aside0.mk (hbox); have GW1676 := Aside0.mk ((by rw [hg]; exact (below_size (by repeat (first | (with_reducible first | exact HB.out | apply below_alloc | apply pw_below_drewN | apply below_drew1 | refine below_set ?_ (IsS144.ge HI1666.out) | refine below_set ?_ GE1662.out) | exact HB.out))) : w.heap.size ≤ gb1676)); have GE1676 := Aside0.mk ((by rw [hg]; exact (below_size (by repeat (first | (with_reducible first | exact HB.out | apply below_alloc | apply pw_below_drewN | apply below_drew1 | refine below_set ?_ (IsS144.ge HI1666.out) | refine below_set ?_ GE1662.out) | exact HB.out))) : w.heap.size ≤ gb1676)); replace HB := Aside0.mk (below_step (by repeat (first | (with_reducible first | exact HB.out | apply below_alloc | apply pw_below_drewN | apply below_drew1 | refine below_set ?_ (IsS144.ge HI1666.out) | refine below_set ?_ GE1662.out) | exact HB.out)) hb); have NB1662_1676 := Aside0.mk ((by rw [hg]; exact Nat.ne_of_lt (blk_lt (g := gb1662) (o := .cells #[.int .i64 0, .slice none 0 0, .slice none 0 0] 31 (0, 0)) (bk_q BK1662)) : gb1662 ≠ gb1676)); have NB1676_1662 := Aside0.mk ((by rw [hg]; exact Nat.ne_of_gt (blk_lt (g := gb1662) (o := .cells #[.int .i64 0, .slice none 0 0, .slice none 0 0] 31 (0, 0)) (bk_q BK1662)) : gb1676 ≠ gb1662)); replace BK1662 := Aside0.mk (blk_below (g := gb1662) (bk_q BK1662) hb); have NB1666_1676 := Aside0.mk ((by rw [hg]; exact Nat.ne_of_lt (IsS144.lt (show IsS144 w _ g1666 t1663 t1674 t1675 from by repeat (first | (with_reducible first | exact HI1666.out | apply IsS144.alloc | apply IsS144.drewN | apply IsS144.drew | apply IsS144.set_1 | apply IsS144.set_2 | refine IsS144.far ?_ NB1666_1662.out _) | exact HI1666.out))) : g1666 ≠ gb1676)); have NB1676_1666 := Aside0.mk ((by rw [hg]; exact Nat.ne_of_gt (IsS144.lt (show IsS144 w _ g1666 t1663 t1674 t1675 from by repeat (first | (with_reducible first | exact HI1666.out | apply IsS144.alloc | apply IsS144.drewN | apply IsS144.drew | apply IsS144.set_1 | apply IsS144.set_2 | refine IsS144.far ?_ NB1666_1662.out _) | exact HI1666.out))) : gb1676 ≠ g1666)); replace HI1666 := Aside0.mk (IsS144.below (by repeat (first | (with_reducible first | exact HI1666.out | apply IsS144.alloc | apply IsS144.drewN | apply IsS144.drew | apply IsS144.set_1 | apply IsS144.set_2 | refine IsS144.far ?_ NB1666_1662.out _) | exact HI1666.out)) hb); clear hb hbox hg; have hnb8 := NB1676_1662.out; have hnc8 := NB1662_1676.out; have hnb9 := NB1676_1666.out; have hnc9 := NB1666_1676.out; have hcz10_0 : w7.cell? ⟨gb1676, 0, none⟩ = some (.int .i64 0) := (blk_cell BK1676.out 0).trans rfl; have hcz10_1 : w7.cell? ⟨gb1676, 1, none⟩ = some (.slice none 0 0) := (blk_cell BK1676.out 1).trans rfl; have hcz10_2 : w7.cell? ⟨gb1676, 2, none⟩ = some (.slice none 0 0) := (blk_cell BK1676.out 2).trans rfl; have hfz10_0 := blk_frozen BK1676.out 0; have hfz10_1 := blk_frozen BK1676.out 1; have hfz10_2 := blk_frozen BK1676.out 2; obtain ⟨Ao11, co11, eo11⟩ := Kd.R_slice HO1670.out; subst eo11; obtain ⟨Ao12, co12, eo12⟩ := Kd.R_slice HO1673.out; subst eo12) | ((with_reducible refine gate_dst (N := 15) rfl ?_); refine Kd.R_lit Kd.bool _ 4 ?hg (N := 15) ?hd (xs := ([] : List Bool)) (inner := []) (ok := fun _ => True) (okp := fun _ => True) ?hr ?hp (fun _ hk => hk) trivial (Below.refl _ _) (Nat.le_refl _) (by simp) ?_; (case hd => rfl); (case hg => rfl); (case hr => first | (go_simp; done) | (go_simp; rfl)); (case hp => exact (Reps.none _ _)); intro v1678 w13 ho14 hb hg_ hnew_; clear hg_ hnew_; (first | rw [← Ny1677.out] at ho14 | (simp only [Int.reduceToNat] at ho14; rw [← Ny1677.out] at ho14)); replace HO1670 := Aside0.mk (Kd.R_below (by (with_reducible repeat (first | apply Kd.R_alloc | apply Kd.R_drewN | apply Kd.R_drew)); exact (Kd.R_mono (Kd.R_far (p := ⟨gb1676, 2, none⟩) (Kd.R_far (p := ⟨gb1676, 1, none⟩) (Kd.R_far (p := ⟨gb1676, 0, none⟩) (Kd.R_types HO1670.out BK1676.out (by decide)) (fun _ hk => hk.2) (.int .i64 t1667)) (fun _ hk => hk.2) (.slice Ao11 t1668.length co11)) (fun _ hk => hk.2) (.slice Ao12 t1671.length co12)) (fun _ h_ => h_.1))) hb); replace HO1673 := Aside0.mk (Kd.R_below (by (with_reducible repeat (first | apply Kd.R_alloc | apply Kd.R_drewN | apply Kd.R_drew)); exact (Kd.R_mono (Kd.R_far (p := ⟨gb1676, 2, none⟩) (Kd.R_far (p := ⟨gb1676, 1, none⟩) (Kd.R_far (p := ⟨gb1676, 0, none⟩) (Kd.R_types HO1673.out BK1676.out (by decide)) (fun _ hk => hk.2) (.int .i64 t1667)) (fun _ hk => hk.2) (.slice Ao11 t1668.length co11)) (fun _ hk => hk.2) (.slice Ao12 t1671.length co12)) (fun _ h_ => h_.1))) hb); have HO1679 := Aside0.mk (Kd.R_lower ho14 (below_size (by repeat (first | (with_reducible first | exact HB.out | apply below_alloc | apply pw_below_drewN | apply below_drew1 | refine below_set ?_ (IsS144.ge HI1666.out) | refine below_set ?_ GE1662.out | refine below_set ?_ GE1676.out) | exact HB.out)))); replace BK1662 := Aside0.mk (blk_below (g := gb1662) (o := .cells #[.int .i64 0, .slice none 0 0, .slice none 0 0] 31 (0, 0)) (by refine bz_ ?_; refine blk_far ?_ NB1662_1676.out _; refine bz_ ?_; refine blk_far ?_ NB1662_1676.out _; refine bz_ ?_; refine blk_far ?_ NB1662_1676.out _; refine bz_ ?_; exact BK1662.out) hb); replace BK1676 := Aside0.mk (blk_below (g := gb1676) (o := .cells #[.int .i64 t1667, .slice Ao11 t1668.length co11, .slice Ao12 t1671.length co12] 31 (0, 0)) (by refine bz_ ?_; refine blk_put (cs := #[.int .i64 t1667, .slice Ao11 t1668.length co11, .slice none 0 0]) ?_ 2 _ rfl; refine bz_ ?_; refine blk_put (cs := #[.int .i64 t1667, .slice none 0 0, .slice none 0 0]) ?_ 1 _ rfl; refine bz_ ?_; refine blk_put (cs := #[.int .i64 0, .slice none 0 0, .slice none 0 0]) ?_ 0 _ rfl; refine bz_ ?_; exact BK1676.out) hb); replace HB := Aside0.mk (below_step (by repeat (first | (with_reducible first | exact HB.out | apply below_alloc | apply pw_below_drewN | apply below_drew1 | refine below_set ?_ (IsS144.ge HI1666.out) | refine below_set ?_ GE1662.out | refine below_set ?_ GE1676.out) | exact HB.out)) hb); replace HI1666 := Aside0.mk (IsS144.below (show IsS144 w (((w7.setCell ⟨gb1676, 0, none⟩ (.int .i64 t1667)).setCell ⟨gb1676, 1, none⟩ (.slice Ao11 t1668.length co11)).setCell ⟨gb1676, 2, none⟩ (.slice Ao12 t1671.length co12)) g1666 t1663 t1674 t1675 from by repeat (first | (with_reducible first | exact HI1666.out | apply IsS144.alloc | apply IsS144.drewN | apply IsS144.drew | apply IsS144.set_1 | apply IsS144.set_2 | refine IsS144.far ?_ NB1666_1662.out _ | refine IsS144.far ?_ NB1666_1676.out _) | exact HI1666.out)) hb); clear hb ho14) | ((with_reducible refine gate_dst (N := 16) rfl ?_); refine Kd.R_lit Kd.bool _ 4 ?hg (N := 16) ?hd (xs := ([] : List Bool)) (inner := []) (ok := fun _ => True) (okp := fun _ => True) ?hr ?hp (fun _ hk => hk) trivial (Below.refl _ _) (Nat.le_refl _) (by simp) ?_; (case hd => rfl); (case hg => rfl); (case hr => first | (go_simp; done) | (go_simp; rfl)); (case hp => exact (Reps.none _ _)); intro v1681 w15 ho16 hb hg_ hnew_; clear hg_ hnew_; (first | rw [← Ny1680.out] at ho16 | (simp only [Int.reduceToNat] at ho16; rw [← Ny1680.out] at ho16)); replace HO1670 := Aside0.mk (Kd.R_below (kR_q HO1670) hb); replace HO1673 := Aside0.mk (Kd.R_below (kR_q HO1673) hb); have HO1682 := Aside0.mk (Kd.R_lower (Kd.R_new' ho16 (Kd.R_lt (kR_q HO1679))) (below_size (by repeat (first | (with_reducible first | exact HB.out | apply below_alloc | apply pw_below_drewN | apply below_drew1 | refine below_set ?_ (IsS144.ge HI1666.out) | refine below_set ?_ GE1662.out | refine below_set ?_ GE1676.out) | exact HB.out)))); replace HO1679 := Aside0.mk (Kd.R_elder' (kR_q HO1679) (Kd.R_base ho16) hb); replace BK1662 := Aside0.mk (blk_below (g := gb1662) (bk_q BK1662) hb); replace BK1676 := Aside0.mk (blk_below (g := gb1676) (bk_q BK1676) hb); replace HB := Aside0.mk (below_step (by repeat (first | (with_reducible first | exact HB.out | apply below_alloc | apply pw_below_drewN | apply below_drew1 | refine below_set ?_ (IsS144.ge HI1666.out) | refine below_set ?_ GE1662.out | refine below_set ?_ GE1676.out) | exact HB.out)) hb); replace HI1666 := Aside0.mk (IsS144.below (by repeat (first | (with_reducible first | exact HI1666.out | apply IsS144.alloc | apply IsS144.drewN | apply IsS144.drew | apply IsS144.set_1 | apply IsS144.set_2 | refine IsS144.far ?_ NB1666_1662.out _ | refine IsS144.far ?_ NB1666_1676.out _) | exact HI1666.out)) hb); clear hb ho16))
 go_loopg [7, 9] k (fun kq v7 v9 w' => ∃ (x7_1 : List Bool) (x9_1 : Int) (x1667001_1 : Int) (x1667002_1 : Int), v9 = .int .i64 x9_1 ∧ Aside0 (spec_DrawRightNet.l0 kq x7_1 y1680 x9_1 t1663 x1667001_1 x1667002_1 t1667 t1668 t1671 = some (r1, r2, r3, r4, r5)) ∧ Aside0 (kq ≤ k) ∧ Aside0 (Kd.R Kd.bool 4 w' w.heap.size (fun k_ => some k_ ≠ (v1681 : Value).ownBlock) v7 x7_1) ∧ Aside0 (Kd.R Kd.bool 4 w' w.heap.size (fun k_ => some k_ ≠ (v7 : Value).ownBlock) v1681 y1680) ∧ Aside0 (Kd.R k93 93 w' w.heap.size (fun _ => True) (.slice Ao11 t1668.length co11) t1668) ∧ Aside0 (Kd.R k102 102 w' w.heap.size (fun _ => True) (.slice Ao12 t1671.length co12) t1671) ∧ Aside0 (w'.heap[gb1662]? = some (.cells #[.int .i64 0, (.slice none 0 0), (.slice none 0 0)] 31 (0, 0))) ∧ Aside0 (w'.heap[gb1676]? = some (.cells #[.int .i64 t1667, (.slice Ao11 t1668.length co11), (.slice Ao12 t1671.length co12)] 31 (0, 0))) ∧ Aside0 (IsS144 w w' g1666 t1663 x1667001_1 x1667002_1) ∧ Aside0 (Below w.heap.size w w'))
 case atStart => exact ⟨(y1677), (0), (t1674), (t1675), (by first | rfl | (simp; done) | (simp [*]; done)), H', ⟨Nat.le_refl _⟩, ⟨by (with_reducible repeat (first | apply Kd.R_alloc | apply Kd.R_drewN | apply Kd.R_drew)); exact Kd.R_mono HO1679.out (fun _ hk => hk.2)⟩, ⟨by (with_reducible repeat (first | apply Kd.R_alloc | apply Kd.R_drewN | apply Kd.R_drew)); exact Kd.R_mono HO1682.out (fun _ hk => hk.2)⟩, ⟨by (with_reducible repeat (first | apply Kd.R_alloc | apply Kd.R_drewN | apply Kd.R_drew)); exact HO1670.out⟩, ⟨by (with_reducible repeat (first | apply Kd.R_alloc | apply Kd.R_drewN | apply Kd.R_drew)); exact HO1673.out⟩, ⟨by refine bz_ ?_; exact BK1662.out⟩, ⟨by refine bz_ ?_; exact BK1676.out⟩, ⟨by repeat (first | (with_reducible first | exact HI1666.out | apply IsS144.alloc | apply IsS144.drewN | apply IsS144.drew | apply IsS144.set_1 | apply IsS144.set_2 | refine IsS144.far ?_ NB1666_1662.out _ | refine IsS144.far ?_ NB1666_1676.out _) | exact HI1666.out)⟩, ⟨by repeat (first | (with_reducible first | exact HB.out | apply below_alloc | apply pw_below_drewN | apply below_drew1 | refine below_set ?_ (IsS144.ge HI1666.out) | refine below_set ?_ GE1662.out | refine below_set ?_ GE1676.out) | exact HB.out)⟩⟩
 case round =>
  clear H'
  try clear c1
  try clear p2
  try clear c6
  try clear c8
  try clear c9
  try clear c11
  try clear c12
  try clear hcz10_0
  try clear hcz10_1
  try clear hcz10_2
  try clear hfz10_0
  try clear hfz10_1
  try clear hfz10_2
  obtain ⟨x7_1, x9_1, x1667001_1, x1667002_1, rfl, HA, HK1, HO_7, HO_8, HO_1677001, HO_1677002, BK1662, BK1676, HI1666, HB⟩ := hrel
  cases gk with
  | zero => exact absurd HA.out (by simp [spec_DrawRightNet.l0])
  | succ k1 =>
   have H := HA.out
   clear HA
   simp only [spec_DrawRightNet.l0] at H
   by_cases c17 : x9_1 < (t1668.length : Int)
   ·rw [if_pos c17] at H
    have c17b0 : decide (x9_1 < (t1668.length : Int)) = true := decide_eq_true c17
    clear c17
    replace H := Option.bind_eq_some_iff.mp H
    obtain ⟨⟨t1683, t1684, t1685⟩, A180, H⟩ := H
    replace H : (if x7_1.length < 140737488355328 then (spec_DrawRightNet.l0 k1 (x7_1 ++ [!t1683]) y1680 (wrap64 (x9_1 + 1)) t1663 t1684 t1685 t1667 t1668 t1671) else (none)) = some (r1, r2, r3, r4, r5) := H
    have A18 := Aside0.mk A180
    clear A180
    by_cases c19 : x7_1.length < 140737488355328
    ·rw [if_pos c19] at H
     have LMc19 := Aside0.mk c19
     clear c19
     obtain ⟨y1686, hy1686⟩ : ∃ y_ : List Bool, y_ = (x7_1 ++ [!t1683]) := ⟨_, rfl⟩
     replace H : (spec_DrawRightNet.l0 k1 y1686 y1680 (wrap64 (x9_1 + 1)) t1663 t1684 t1685 t1667 t1668 t1671) = some (r1, r2, r3, r4, r5) := by first | (rw [hy1686]; with_reducible exact H) | (have H2_ := (Option.bind_some _ _).symm.trans H; rw [hy1686]; with_reducible exact H2_) | (have H2_ := (Option.bind_some _ _).symm.trans H; with_reducible exact H2_) | with_reducible exact H | (rw [hy1686]; exact H) | exact H
     have Ny1686 := Aside0.mk hy1686
     clear hy1686
     have H' := Aside0.mk H
     clear H
     have hnb20 := NB1676_1662.out
     have hnc20 := NB1662_1676.out
     have hnb21 := NB1676_1666.out
     have hnc21 := NB1666_1676.out
     obtain ⟨hcz22_0, hcz22_1, hcz22_2⟩ := cz3_ BK1676
     obtain ⟨hfz22_0, hfz22_1, hfz22_2⟩ := fz3_ BK1676
     go_wp2_with (first | ((with_reducible refine gate_callee (f := 121) rfl ?_); refine goesL_ (some 26) rfl rfl Try.func121 (by kernel_rfl) rfl #[.pointer (some ⟨g1666, 0, none⟩), .int .i64 6] rfl mp_q ?_; (with_reducible refine (spec_l01Once.calls g1666 t1663 x1667001_1 x1667002_1 6 t1683 t1684 t1685 w _ ?side1 ?side2 A18.out).mono ?_); (case side1 => repeat (first | (with_reducible first | exact HI1666.out | apply IsS144.alloc | apply IsS144.drewN | apply IsS144.drew | apply IsS144.set_1 | apply IsS144.set_2 | refine IsS144.far ?_ NB1666_1662.out _ | refine IsS144.far ?_ NB1666_1676.out _) | exact HI1666.out)); (case side2 => repeat (first | (with_reducible first | exact HB.out | apply below_alloc | apply pw_below_drewN | apply below_drew1 | refine below_set ?_ (IsS144.ge HI1666.out) | refine below_set ?_ GE1662.out | refine below_set ?_ GE1676.out) | exact HB.out)); rintro e w23 ⟨rfl, hi, hb, hk⟩; refine ⟨_, rfl, ?_⟩; replace HO_7 := Aside0.mk (Kd.R_mono (Kd.R_keep (IsS144.apart (show IsS144 w _ g1666 t1663 x1667001_1 x1667002_1 from by repeat (first | (with_reducible first | exact HI1666.out | apply IsS144.alloc | apply IsS144.drewN | apply IsS144.drew | apply IsS144.set_1 | apply IsS144.set_2 | refine IsS144.far ?_ NB1666_1662.out _ | refine IsS144.far ?_ NB1666_1676.out _) | exact HI1666.out)) (kR_q HO_7) (by decide)) hk (fun _ h => h.2)) (fun _ h => h.1)); replace HO_8 := Aside0.mk (Kd.R_mono (Kd.R_keep (IsS144.apart (show IsS144 w _ g1666 t1663 x1667001_1 x1667002_1 from by repeat (first | (with_reducible first | exact HI1666.out | apply IsS144.alloc | apply IsS144.drewN | apply IsS144.drew | apply IsS144.set_1 | apply IsS144.set_2 | refine IsS144.far ?_ NB1666_1662.out _ | refine IsS144.far ?_ NB1666_1676.out _) | exact HI1666.out)) (kR_q HO_8) (by decide)) hk (fun _ h => h.2)) (fun _ h => h.1)); replace HO_1677001 := Aside0.mk (Kd.R_mono (Kd.R_keep (IsS144.apart (show IsS144 w _ g1666 t1663 x1667001_1 x1667002_1 from by repeat (first | (with_reducible first | exact HI1666.out | apply IsS144.alloc | apply IsS144.drewN | apply IsS144.drew | apply IsS144.set_1 | apply IsS144.set_2 | refine IsS144.far ?_ NB1666_1662.out _ | refine IsS144.far ?_ NB1666_1676.out _) | exact HI1666.out)) (kR_q HO_1677001) (by decide)) hk (fun _ h => h.2)) (fun _ h => h.1)); replace HO_1677002 := Aside0.mk (Kd.R_mono (Kd.R_keep (IsS144.apart (show IsS144 w _ g1666 t1663 x1667001_1 x1667002_1 from by repeat (first | (with_reducible first | exact HI1666.out | apply IsS144.alloc | apply IsS144.drewN | apply IsS144.drew | apply IsS144.set_1 | apply IsS144.set_2 | refine IsS144.far ?_ NB1666_1662.out _ | refine IsS144.far ?_ NB1666_1676.out _) | exact HI1666.out)) (kR_q HO_1677002) (by decide)) hk (fun _ h => h.2)) (fun _ h => h.1)); replace BK1662 := Aside0.mk (KeepBut.blk hk (g' := gb1662) (o := .cells #[.int .i64 0, .slice none 0 0, .slice none 0 0] 31 (0, 0)) (bk_q BK1662) NB1662_1666.out (by simp)); replace BK1676 := Aside0.mk (KeepBut.blk hk (g' := gb1676) (o := .cells #[.int .i64 t1667, .slice Ao11 t1668.length co11, .slice Ao12 t1671.length co12] 31 (0, 0)) (bk_q BK1676) NB1676_1666.out (by simp)); replace HB := Aside0.mk (hb); replace HI1666 := Aside0.mk (hi); (try clear hb); (try clear hb2); (try clear hk); (try clear hi)) | ((with_reducible refine gate_builtin (b := .append) (xs := #[.tmp 24, .tmp 28]) rfl ?_); at_builtin; refine Kd.R_append Kd.bool (w0 := w) w.heap.size rfl (.tmp 24) (.tmp 28) 84 4 (.bool false) 1 rfl Try.underlying84 info4 rfl (by decide) (by omega) u7 x7_1 (!t1683) [.bool (!t1683)] (fun k_ => some k_ ≠ (v1681 : Value).ownBlock) (fun _ => False) rfl rfl ?aP (fun _ hk => hk.elim) ?aF ?aO ?aB ?aS ?aL ?_; (case aP => exact rfl); (case aB => exact (by repeat (first | (with_reducible first | exact HB.out | apply below_alloc | apply pw_below_drewN | apply below_drew1 | refine below_set ?_ (IsS144.ge HI1666.out) | refine below_set ?_ GE1662.out | refine below_set ?_ GE1676.out) | exact HB.out))); (case aF => exact (fun k_ hk => Kd.fresh' (Kd.R_lt (kR_q HO_8)) k_ hk)); (case aO => exact (kR_q HO_7)); (case aS => exact (below_size (by repeat (first | (with_reducible first | exact HB.out | apply below_alloc | apply pw_below_drewN | apply below_drew1 | refine below_set ?_ (IsS144.ge HI1666.out) | refine below_set ?_ GE1662.out | refine below_set ?_ GE1676.out) | exact HB.out)))); (case aL => have := LMc19.out; omega); intro v1687 w24 ho hb hg hat; rw [← Ny1686.out] at ho; replace HO_8 := Aside0.mk (Kd.R_after (ok := (fun _ => True)) (by (with_reducible repeat (first | apply Kd.R_alloc | apply Kd.R_drewN | apply Kd.R_drew)); exact Kd.R_mono HO_8.out (fun _ hk => ⟨trivial, hk⟩)) hg hat); replace HO_1677001 := Aside0.mk (Kd.R_over' (kR_q HO_1677001) (Kd.R_typed (kR_q HO_7)) (by decide) hg); replace HO_1677002 := Aside0.mk (Kd.R_over' (kR_q HO_1677002) (Kd.R_typed (kR_q HO_7)) (by decide) hg); replace BK1662 := Aside0.mk (blk_grown (g := gb1662) (o := .cells #[.int .i64 0, .slice none 0 0, .slice none 0 0] 31 (0, 0)) (bk_q BK1662) hg (Kd.R_ne HO_7.out BK1662.out (by decide))); replace BK1676 := Aside0.mk (blk_grown (g := gb1676) (o := .cells #[.int .i64 t1667, .slice Ao11 t1668.length co11, .slice Ao12 t1671.length co12] 31 (0, 0)) (bk_q BK1676) hg (Kd.R_ne HO_7.out BK1676.out (by decide))); replace HI1666 := Aside0.mk (IsS144.grown (show IsS144 w _ g1666 t1663 t1684 t1685 from by repeat (first | (with_reducible first | exact HI1666.out | apply IsS144.alloc | apply IsS144.drewN | apply IsS144.drew | apply IsS144.set_1 | apply IsS144.set_2 | refine IsS144.far ?_ NB1666_1662.out _ | refine IsS144.far ?_ NB1666_1676.out _) | exact HI1666.out)) hg (IsS144.own_ne HI1666.out HO_7.out (by decide))); replace HB := Aside0.mk (hb); have HO1688 := Aside0.mk (ho); clear HO_7; clear ho hb hg hat))
     go_roundg k1
     case measure => have := HK1.out; omega
     case rel => exact ⟨(y1686), (wrap64 (x9_1 + 1)), (t1684), (t1685), (by first | rfl | (simp; done) | (simp [*]; done)), H', ⟨by have := HK1.out; omega⟩, ⟨by (with_reducible repeat (first | apply Kd.R_alloc | apply Kd.R_drewN | apply Kd.R_drew)); exact HO1688.out⟩, ⟨by (with_reducible repeat (first | apply Kd.R_alloc | apply Kd.R_drewN | apply Kd.R_drew)); exact Kd.R_mono HO_8.out (fun _ hk => hk.2)⟩, ⟨by (with_reducible repeat (first | apply Kd.R_alloc | apply Kd.R_drewN | apply Kd.R_drew)); exact HO_1677001.out⟩, ⟨by (with_reducible repeat (first | apply Kd.R_alloc | apply Kd.R_drewN | apply Kd.R_drew)); exact HO_1677002.out⟩, ⟨by refine bz_ ?_; exact BK1662.out⟩, ⟨by refine bz_ ?_; exact BK1676.out⟩, ⟨by repeat (first | (with_reducible first | exact HI1666.out | apply IsS144.alloc | apply IsS144.drewN | apply IsS144.drew | apply IsS144.set_1 | apply IsS144.set_2 | refine IsS144.far ?_ NB1666_1662.out _ | refine IsS144.far ?_ NB1666_1676.out _) | exact HI1666.out)⟩, ⟨by repeat (first | (with_reducible first | exact HB.out | apply below_alloc | apply pw_below_drewN | apply below_drew1 | refine below_set ?_ (IsS144.ge HI1666.out) | refine below_set ?_ GE1662.out | refine below_set ?_ GE1676.out) | exact HB.out)⟩⟩
    ·rw [if_neg c19] at H
     exact absurd H (by simp)
   ·rw [if_neg c17] at H
    have c17b0 : decide (x9_1 < (t1668.length : Int)) = false := decide_eq_false c17
    clear c17
    have H' := Aside0.mk H
    clear H
    have hnb25 := NB1676_1662.out
    have hnc25 := NB1662_1676.out
    have hnb26 := NB1676_1666.out
    have hnc26 := NB1666_1676.out
    obtain ⟨hcz27_0, hcz27_1, hcz27_2⟩ := cz3_ BK1676
    obtain ⟨hfz27_0, hfz27_1, hfz27_2⟩ := fz3_ BK1676
    go_wp2
    go_loopg [8, 10] k1 (fun kq v8 v10 w' => ∃ (x8_2 : List Bool) (x10_2 : Int) (x1667001_2 : Int) (x1667002_2 : Int), v10 = .int .i64 x10_2 ∧ Aside0 (spec_DrawRightNet.l1 kq x7_1 x8_2 x10_2 t1663 x1667001_2 x1667002_2 t1667 t1668 t1671 = some (r1, r2, r3, r4, r5)) ∧ Aside0 (kq ≤ k1) ∧ Aside0 (Kd.R Kd.bool 4 w' w.heap.size (fun k_ => some k_ ≠ (v8 : Value).ownBlock) u7 x7_1) ∧ Aside0 (Kd.R Kd.bool 4 w' w.heap.size (fun k_ => some k_ ≠ (u7 : Value).ownBlock) v8 x8_2) ∧ Aside0 (Kd.R k93 93 w' w.heap.size (fun _ => True) (.slice Ao11 t1668.length co11) t1668) ∧ Aside0 (Kd.R k102 102 w' w.heap.size (fun _ => True) (.slice Ao12 t1671.length co12) t1671) ∧ Aside0 (w'.heap[gb1662]? = some (.cells #[.int .i64 0, (.slice none 0 0), (.slice none 0 0)] 31 (0, 0))) ∧ Aside0 (w'.heap[gb1676]? = some (.cells #[.int .i64 t1667, (.slice Ao11 t1668.length co11), (.slice Ao12 t1671.length co12)] 31 (0, 0))) ∧ Aside0 (IsS144 w w' g1666 t1663 x1667001_2 x1667002_2) ∧ Aside0 (Below w.heap.size w w'))
    case atStart => exact ⟨(y1680), (0), (x1667001_1), (x1667002_1), (by first | rfl | (simp; done) | (simp [*]; done)), H', ⟨Nat.le_refl _⟩, ⟨by (with_reducible repeat (first | apply Kd.R_alloc | apply Kd.R_drewN | apply Kd.R_drew)); exact HO_7.out⟩, ⟨by (with_reducible repeat (first | apply Kd.R_alloc | apply Kd.R_drewN | apply Kd.R_drew)); exact HO_8.out⟩, ⟨by (with_reducible repeat (first | apply Kd.R_alloc | apply Kd.R_drewN | apply Kd.R_drew)); exact HO_1677001.out⟩, ⟨by (with_reducible repeat (first | apply Kd.R_alloc | apply Kd.R_drewN | apply Kd.R_drew)); exact HO_1677002.out⟩, ⟨by refine bz_ ?_; exact BK1662.out⟩, ⟨by refine bz_ ?_; exact BK1676.out⟩, ⟨by repeat (first | (with_reducible first | exact HI1666.out | apply IsS144.alloc | apply IsS144.drewN | apply IsS144.drew | apply IsS144.set_1 | apply IsS144.set_2 | refine IsS144.far ?_ NB1666_1662.out _ | refine IsS144.far ?_ NB1666_1676.out _) | exact HI1666.out)⟩, ⟨by repeat (first | (with_reducible first | exact HB.out | apply below_alloc | apply pw_below_drewN | apply below_drew1 | refine below_set ?_ (IsS144.ge HI1666.out) | refine below_set ?_ GE1662.out | refine below_set ?_ GE1676.out) | exact HB.out)⟩⟩
    case round =>
     clear H'
     try clear c1
     try clear c2
     try clear p2
     try clear c6
     try clear p6
     try clear c8
     try clear c9
     try clear c11
     try clear c12
     try clear c17
     try clear c17b0
     try clear c19
     try clear c20
     try clear c21
     try clear c25
     try clear c26
     try clear hcz10_0
     try clear hcz10_1
     try clear hcz10_2
     try clear hcz22_0
     try clear hcz22_1
     try clear hcz22_2
     try clear hcz27_0
     try clear hcz27_1
     try clear hcz27_2
     try clear hfz10_0
     try clear hfz10_1
     try clear hfz10_2
     try clear hfz22_0
     try clear hfz22_1
     try clear hfz22_2
     try clear hfz27_0
     try clear hfz27_1
     try clear hfz27_2
     try clear p2
     obtain ⟨x8_2, x10_2, x1667001_2, x1667002_2, rfl, HA, HK2, HO_7, HO_8, HO_1677001, HO_1677002, BK1662, BK1676, HI1666, HB⟩ := hrel
     cases gk with
     | zero => exact absurd HA.out (by simp [spec_DrawRightNet.l1])
     | succ k2 =>
      have H := HA.out
      clear HA
      simp only [spec_DrawRightNet.l1] at H
      by_cases c28 : x10_2 < t1667
      ·rw [if_pos c28] at H
       have c28b0 : decide (x10_2 < t1667) = true := decide_eq_true c28
       clear c28
       replace H := Option.bind_eq_some_iff.mp H
       obtain ⟨⟨t1689, t1690, t1691⟩, A290, H⟩ := H
       replace H : (if x8_2.length < 140737488355328 then (spec_DrawRightNet.l1 k2 x7_1 (x8_2 ++ [!t1689]) (wrap64 (x10_2 + 1)) t1663 t1690 t1691 t1667 t1668 t1671) else (none)) = some (r1, r2, r3, r4, r5) := H
       have A29 := Aside0.mk A290
       clear A290
       by_cases c30 : x8_2.length < 140737488355328
       ·rw [if_pos c30] at H
        have LMc30 := Aside0.mk c30
        clear c30
        obtain ⟨y1692, hy1692⟩ : ∃ y_ : List Bool, y_ = (x8_2 ++ [!t1689]) := ⟨_, rfl⟩
        replace H : (spec_DrawRightNet.l1 k2 x7_1 y1692 (wrap64 (x10_2 + 1)) t1663 t1690 t1691 t1667 t1668 t1671) = some (r1, r2, r3, r4, r5) := by first | (rw [hy1692]; with_reducible exact H) | (have H2_ := (Option.bind_some _ _).symm.trans H; rw [hy1692]; with_reducible exact H2_) | (have H2_ := (Option.bind_some _ _).symm.trans H; with_reducible exact H2_) | with_reducible exact H | (rw [hy1692]; exact H) | exact H
        have Ny1692 := Aside0.mk hy1692
        clear hy1692
        have H' := Aside0.mk H
        clear H
        have hnb31 := NB1676_1662.out
        have hnc31 := NB1662_1676.out
        have hnb32 := NB1676_1666.out
        have hnc32 := NB1666_1676.out
        obtain ⟨hcz33_0, hcz33_1, hcz33_2⟩ := cz3_ BK1676
        obtain ⟨hfz33_0, hfz33_1, hfz33_2⟩ := fz3_ BK1676
        go_wp2_with (first | ((with_reducible refine gate_callee (f := 121) rfl ?_); refine goesL_ (some 38) rfl rfl Try.func121 (by kernel_rfl) rfl #[.pointer (some ⟨g1666, 0, none⟩), .int .i64 8] rfl mp_q ?_; (with_reducible refine (spec_l01Once.calls g1666 t1663 x1667001_2 x1667002_2 8 t1689 t1690 t1691 w _ ?side1 ?side2 A29.out).mono ?_); (case side1 => repeat (first | (with_reducible first | exact HI1666.out | apply IsS144.alloc | apply IsS144.drewN | apply IsS144.drew | apply IsS144.set_1 | apply IsS144.set_2 | refine IsS144.far ?_ NB1666_1662.out _ | refine IsS144.far ?_ NB1666_1676.out _) | exact HI1666.out)); (case side2 => repeat (first | (with_reducible first | exact HB.out | apply below_alloc | apply pw_below_drewN | apply below_drew1 | refine below_set ?_ (IsS144.ge HI1666.out) | refine below_set ?_ GE1662.out | refine below_set ?_ GE1676.out) | exact HB.out)); rintro e w34 ⟨rfl, hi, hb, hk⟩; refine ⟨_, rfl, ?_⟩; replace HO_7 := Aside0.mk (Kd.R_mono (Kd.R_keep (IsS144.apart (show IsS144 w _ g1666 t1663 x1667001_2 x1667002_2 from by repeat (first | (with_reducible first | exact HI1666.out | apply IsS144.alloc | apply IsS144.drewN | apply IsS144.drew | apply IsS144.set_1 | apply IsS144.set_2 | refine IsS144.far ?_ NB1666_1662.out _ | refine IsS144.far ?_ NB1666_1676.out _) | exact HI1666.out)) (kR_q HO_7) (by decide)) hk (fun _ h => h.2)) (fun _ h => h.1)); replace HO_8 := Aside0.mk (Kd.R_mono (Kd.R_keep (IsS144.apart (show IsS144 w _ g1666 t1663 x1667001_2 x1667002_2 from by repeat (first | (with_reducible first | exact HI1666.out | apply IsS144.alloc | apply IsS144.drewN | apply IsS144.drew | apply IsS144.set_1 | apply IsS144.set_2 | refine IsS144.far ?_ NB1666_1662.out _ | refine IsS144.far ?_ NB1666_1676.out _) | exact HI1666.out)) (kR_q HO_8) (by decide)) hk (fun _ h => h.2)) (fun _ h => h.1)); replace HO_1677001 := Aside0.mk (Kd.R_mono (Kd.R_keep (IsS144.apart (show IsS144 w _ g1666 t1663 x1667001_2 x1667002_2 from by repeat (first | (with_reducible first | exact HI1666.out | apply IsS144.alloc | apply IsS144.drewN | apply IsS144.drew | apply IsS144.set_1 | apply IsS144.set_2 | refine IsS144.far ?_ NB1666_1662.out _ | refine IsS144.far ?_ NB1666_1676.out _) | exact HI1666.out)) (kR_q HO_1677001) (by decide)) hk (fun _ h => h.2)) (fun _ h => h.1)); replace HO_1677002 := Aside0.mk (Kd.R_mono (Kd.R_keep (IsS144.apart (show IsS144 w _ g1666 t1663 x1667001_2 x1667002_2 from by repeat (first | (with_reducible first | exact HI1666.out | apply IsS144.alloc | apply IsS144.drewN | apply IsS144.drew | apply IsS144.set_1 | apply IsS144.set_2 | refine IsS144.far ?_ NB1666_1662.out _ | refine IsS144.far ?_ NB1666_1676.out _) | exact HI1666.out)) (kR_q HO_1677002) (by decide)) hk (fun _ h => h.2)) (fun _ h => h.1)); replace BK1662 := Aside0.mk (KeepBut.blk hk (g' := gb1662) (o := .cells #[.int .i64 0, .slice none 0 0, .slice none 0 0] 31 (0, 0)) (bk_q BK1662) NB1662_1666.out (by simp)); replace BK1676 := Aside0.mk (KeepBut.blk hk (g' := gb1676) (o := .cells #[.int .i64 t1667, .slice Ao11 t1668.length co11, .slice Ao12 t1671.length co12] 31 (0, 0)) (bk_q BK1676) NB1676_1666.out (by simp)); replace HB := Aside0.mk (hb); replace HI1666 := Aside0.mk (hi); (try clear hb); (try clear hb2); (try clear hk); (try clear hi)) | ((with_reducible refine gate_builtin (b := .append) (xs := #[.tmp 36, .tmp 40]) rfl ?_); at_builtin; refine Kd.R_append Kd.bool (w0 := w) w.heap.size rfl (.tmp 36) (.tmp 40) 84 4 (.bool false) 1 rfl Try.underlying84 info4 rfl (by decide) (by omega) u8 x8_2 (!t1689) [.bool (!t1689)] (fun k_ => some k_ ≠ (u7 : Value).ownBlock) (fun _ => False) rfl rfl ?aP (fun _ hk => hk.elim) ?aF ?aO ?aB ?aS ?aL ?_; (case aP => exact rfl); (case aB => exact (by repeat (first | (with_reducible first | exact HB.out | apply below_alloc | apply pw_below_drewN | apply below_drew1 | refine below_set ?_ (IsS144.ge HI1666.out) | refine below_set ?_ GE1662.out | refine below_set ?_ GE1676.out) | exact HB.out))); (case aF => exact (fun k_ hk => Kd.fresh' (Kd.R_lt (kR_q HO_7)) k_ hk)); (case aO => exact (kR_q HO_8)); (case aS => exact (below_size (by repeat (first | (with_reducible first | exact HB.out | apply below_alloc | apply pw_below_drewN | apply below_drew1 | refine below_set ?_ (IsS144.ge HI1666.out) | refine below_set ?_ GE1662.out | refine below_set ?_ GE1676.out) | exact HB.out)))); (case aL => have := LMc30.out; omega); intro v1693 w35 ho hb hg hat; rw [← Ny1692.out] at ho; replace HO_7 := Aside0.mk (Kd.R_after (ok := (fun _ => True)) (by (with_reducible repeat (first | apply Kd.R_alloc | apply Kd.R_drewN | apply Kd.R_drew)); exact Kd.R_mono HO_7.out (fun _ hk => ⟨trivial, hk⟩)) hg hat); replace HO_1677001 := Aside0.mk (Kd.R_over' (kR_q HO_1677001) (Kd.R_typed (kR_q HO_8)) (by decide) hg); replace HO_1677002 := Aside0.mk (Kd.R_over' (kR_q HO_1677002) (Kd.R_typed (kR_q HO_8)) (by decide) hg); replace BK1662 := Aside0.mk (blk_grown (g := gb1662) (o := .cells #[.int .i64 0, .slice none 0 0, .slice none 0 0] 31 (0, 0)) (bk_q BK1662) hg (Kd.R_ne HO_8.out BK1662.out (by decide))); replace BK1676 := Aside0.mk (blk_grown (g := gb1676) (o := .cells #[.int .i64 t1667, .slice Ao11 t1668.length co11, .slice Ao12 t1671.length co12] 31 (0, 0)) (bk_q BK1676) hg (Kd.R_ne HO_8.out BK1676.out (by decide))); replace HI1666 := Aside0.mk (IsS144.grown (show IsS144 w _ g1666 t1663 t1690 t1691 from by repeat (first | (with_reducible first | exact HI1666.out | apply IsS144.alloc | apply IsS144.drewN | apply IsS144.drew | apply IsS144.set_1 | apply IsS144.set_2 | refine IsS144.far ?_ NB1666_1662.out _ | refine IsS144.far ?_ NB1666_1676.out _) | exact HI1666.out)) hg (IsS144.own_ne HI1666.out HO_8.out (by decide))); replace HB := Aside0.mk (hb); have HO1694 := Aside0.mk (ho); clear HO_8; clear ho hb hg hat))
        go_roundg k2
        case measure => have := HK1.out; have := HK2.out; omega
        case rel => exact ⟨(y1692), (wrap64 (x10_2 + 1)), (t1690), (t1691), (by first | rfl | (simp; done) | (simp [*]; done)), H', ⟨by have := HK1.out; have := HK2.out; omega⟩, ⟨by (with_reducible repeat (first | apply Kd.R_alloc | apply Kd.R_drewN | apply Kd.R_drew)); exact Kd.R_mono HO_7.out (fun _ hk => hk.2)⟩, ⟨by (with_reducible repeat (first | apply Kd.R_alloc | apply Kd.R_drewN | apply Kd.R_drew)); exact HO1694.out⟩, ⟨by (with_reducible repeat (first | apply Kd.R_alloc | apply Kd.R_drewN | apply Kd.R_drew)); exact HO_1677001.out⟩, ⟨by (with_reducible repeat (first | apply Kd.R_alloc | apply Kd.R_drewN | apply Kd.R_drew)); exact HO_1677002.out⟩, ⟨by refine bz_ ?_; exact BK1662.out⟩, ⟨by refine bz_ ?_; exact BK1676.out⟩, ⟨by repeat (first | (with_reducible first | exact HI1666.out | apply IsS144.alloc | apply IsS144.drewN | apply IsS144.drew | apply IsS144.set_1 | apply IsS144.set_2 | refine IsS144.far ?_ NB1666_1662.out _ | refine IsS144.far ?_ NB1666_1676.out _) | exact HI1666.out)⟩, ⟨by repeat (first | (with_reducible first | exact HB.out | apply below_alloc | apply pw_below_drewN | apply below_drew1 | refine below_set ?_ (IsS144.ge HI1666.out) | refine below_set ?_ GE1662.out | refine below_set ?_ GE1676.out) | exact HB.out)⟩⟩
       ·rw [if_neg c30] at H
        exact absurd H (by simp)
      ·rw [if_neg c28] at H
       have c28b0 : decide (x10_2 < t1667) = false := decide_eq_false c28
       clear c28
       simp only [Option.some.injEq, Prod.mk.injEq] at H
       obtain ⟨rfl, rfl, rfl, rfl, rfl⟩ := H
       have hnb36 := NB1676_1662.out
       have hnc36 := NB1662_1676.out
       have hnb37 := NB1676_1666.out
       have hnc37 := NB1666_1676.out
       obtain ⟨hcz38_0, hcz38_1, hcz38_2⟩ := cz3_ BK1676
       obtain ⟨hfz38_0, hfz38_1, hfz38_2⟩ := fz3_ BK1676
       have hnb39 := NB1662_1666.out
       have hnc39 := NB1666_1662.out
       obtain ⟨hcz40_0, hcz40_1, hcz40_2⟩ := cz3_ BK1662
       obtain ⟨hfz40_0, hfz40_1, hfz40_2⟩ := fz3_ BK1662
       go_wp2
       refine bodyPost_ret (results_ctt rfl _ _ gb1662 31 #[.int .i64 t1667, .slice Ao11 t1668.length co11, .slice Ao12 t1671.length co12] (0, 0) _ rfl (by refine bz_ ?_; refine blk_put (cs := #[.int .i64 t1667, .slice Ao11 t1668.length co11, .slice none 0 0]) ?_ 2 _ rfl; refine bz_ ?_; refine blk_put (cs := #[.int .i64 t1667, .slice none 0 0, .slice none 0 0]) ?_ 1 _ rfl; refine bz_ ?_; refine blk_put (cs := #[.int .i64 0, .slice none 0 0, .slice none 0 0]) ?_ 0 _ rfl; refine bz_ ?_; exact BK1662.out) Try.underlying31 rfl (by kernel_rfl)) rfl ?_
       exact ⟨_, _, _, _, er_q, by (with_reducible repeat (first | apply Kd.R_alloc | apply Kd.R_drewN | apply Kd.R_drew)); exact Kd.R_mono (Kd.R_far (p := ⟨gb1662, 2, none⟩) (Kd.R_far (p := ⟨gb1662, 1, none⟩) (Kd.R_far (p := ⟨gb1662, 0, none⟩) (Kd.R_types HO_1677001.out BK1662.out (by decide)) (fun _ hk => hk.2) (.int .i64 t1667)) (fun _ hk => hk.2) (.slice Ao11 t1668.length co11)) (fun _ hk => hk.2) (.slice Ao12 t1671.length co12)) (fun _ hk => trivial), by (with_reducible repeat (first | apply Kd.R_alloc | apply Kd.R_drewN | apply Kd.R_drew)); exact Kd.R_mono (Kd.R_far (p := ⟨gb1662, 2, none⟩) (Kd.R_far (p := ⟨gb1662, 1, none⟩) (Kd.R_far (p := ⟨gb1662, 0, none⟩) (Kd.R_types HO_1677002.out BK1662.out (by decide)) (fun _ hk => hk.2) (.int .i64 t1667)) (fun _ hk => hk.2) (.slice Ao11 t1668.length co11)) (fun _ hk => hk.2) (.slice Ao12 t1671.length co12)) (fun _ hk => trivial), by (with_reducible repeat (first | apply Kd.R_alloc | apply Kd.R_drewN | apply Kd.R_drew)); exact Kd.R_mono (Kd.R_far (p := ⟨gb1662, 2, none⟩) (Kd.R_far (p := ⟨gb1662, 1, none⟩) (Kd.R_far (p := ⟨gb1662, 0, none⟩) (Kd.R_types HO_7.out BK1662.out (by decide)) (fun _ hk => hk.2) (.int .i64 t1667)) (fun _ hk => hk.2) (.slice Ao11 t1668.length co11)) (fun _ hk => hk.2) (.slice Ao12 t1671.length co12)) (fun _ hk => hk.1), by (with_reducible repeat (first | apply Kd.R_alloc | apply Kd.R_drewN | apply Kd.R_drew)); exact Kd.R_mono (Kd.R_far (p := ⟨gb1662, 2, none⟩) (Kd.R_far (p := ⟨gb1662, 1, none⟩) (Kd.R_far (p := ⟨gb1662, 0, none⟩) (Kd.R_types HO_8.out BK1662.out (by decide)) (fun _ hk => hk.2) (.int .i64 t1667)) (fun _ hk => hk.2) (.slice Ao11 t1668.length co11)) (fun _ hk => hk.2) (.slice Ao12 t1671.length co12)) (fun _ hk => hk.1), by repeat (first | (with_reducible first | exact HB.out | apply below_alloc | apply pw_below_drewN | apply below_drew1 | refine below_set ?_ (IsS144.ge HI1666.out) | refine below_set ?_ GE1662.out | refine below_set ?_ GE1676.out) | exact HB.out)⟩

end Go.Proofs.Ythjmdiggglkeaaa.Q

/- A Go function as a Lean function, and its contract: for every input the Go code comes to what the Lean function tells. -/

namespace Go.Proofs.Ythjmdiggglkeaaa.Q
open Go.RowKit Go.Proofs.YthjmdiggglkeaaaW.PrintWords Go.Proofs.YthjmdiggglkeaaaW.PrintLast Go.Proofs.YthjmdiggglkeaaaW.PrintMore
attribute [local go_sem] max2_int min2_int max_two min_two max_three min_three max_four min_four   -- for this text's walks alone
set_option linter.unusedVariables false
set_option linter.unusedSimpArgs false

/-! ### impl_copyInts: function 134 -/
def impl_copyInts.f (l0 : List Int) : Option (List Int) := if ([] : List Int).length + l0.length < 17592186044416 then (some (([] : List Int) ++ l0)) else (none)
set_option maxHeartbeats 8000000 in
set_option maxRecDepth 100000 in
theorem impl_copyInts.calls (A0 : Option Addr) (c0 : Nat) (l0 : List Int) (r : List Int) (w : World) (hr0 : Kd.C (Kd.int .i64) w A0 l0.length l0) (hc0 : l0.length ≤ c0) (h : impl_copyInts.f l0 = some r) :
  Calls Try.prog 134 #[.slice A0 l0.length c0] w fun e w' => ∃ v0_ : Value, e = .returned (v0_) ∧ Kd.R (Kd.int .i64) 3 w' w.heap.size (fun _ => True) v0_ r ∧ Below w.heap.size w w' := by
 have HR0 := Aside0.mk hr0
 have HC0 := Aside0.mk hc0
 clear hr0 hc0
 have HB := Aside0.mk (Below.refl w.heap.size w)
 have H : (if ([] : List Int).length + l0.length < 17592186044416 then (some (([] : List Int) ++ l0)) else (none)) = some r := h
 clear h
 by_cases c2 : ([] : List Int).length + l0.length < 17592186044416
 ·rw [if_pos c2] at H
  have LMc2 := Aside0.mk c2
  clear c2
  obtain ⟨y571, hy571⟩ : ∃ y_ : List Int, y_ = (([] : List Int) ++ l0) := ⟨_, rfl⟩
  replace H : (some y571) = some r := by first | (rw [hy571]; with_reducible exact H) | (have H2_ := (Option.bind_some _ _).symm.trans H; rw [hy571]; with_reducible exact H2_) | (have H2_ := (Option.bind_some _ _).symm.trans H; with_reducible exact H2_) | with_reducible exact H | (rw [hy571]; exact H) | exact H
  have Ny571 := Aside0.mk hy571
  clear hy571
  obtain rfl := Option.some.inj H
  go_enter Try.func134, Try.ntmps134
  go_wp2_with (first | ((with_reducible refine gate_builtin (b := .append) (xs := #[(.const (.slice none 0 0)), .tmp 3]) rfl ?_); at_builtin; refine Kd.R_append_rows (Kd.int .i64) (w0 := w) w.heap.size rfl (.const (.slice none 0 0)) (.tmp 3) 35 3 (.int .i64 0) 8 rfl Try.underlying35 info3 rfl (by decide) (by omega) (.slice none 0 0) ([] : List Int) l0 _ _ _ (fun _ => True) (fun _ => False) rfl rfl ?aO ?aR (fun _ _ h => h) (fun _ h => h.elim) ?aF ?aB ?aS ?aL ?_; (case aR => repeat (first | exact HR0.out | (with_reducible refine Kd.C_alloc ?_ _) | (with_reducible refine Kd.C_drewN ?_ _) | (with_reducible refine Kd.C_drew ?_))); (case aB => exact (bw_q HB)); (case aF => exact (fun _ _ => trivial)); (case aO => exact ((Kd.R_nil _ _ _ _ (fun _ => True)))); (case aS => exact (below_size (bw_q HB))); (case aL => have := LMc2.out; omega); intro v572 w3 ho hb hg hat; rw [← Ny571.out] at ho; replace HB := Aside0.mk (hb); have HO573 := Aside0.mk (ho); clear ho hb hg hat))
  go_ret
  exact ⟨_, er_q, by (with_reducible repeat (first | apply Kd.R_alloc | apply Kd.R_drewN | apply Kd.R_drew)); exact HO573.out, bw_q HB⟩
 ·rw [if_neg c2] at H
  exact absurd H (by simp)

end Go.Proofs.Ythjmdiggglkeaaa.Q

/- A Go function as a Lean function, and its contract: for every input the Go code comes to what the Lean function tells. -/


namespace Go.Proofs.Ythjmdiggglkeaaa.Q
open Go.RowKit Go.Proofs.YthjmdiggglkeaaaW.PrintWords Go.Proofs.YthjmdiggglkeaaaW.PrintLast Go.Proofs.YthjmdiggglkeaaaW.PrintMore
attribute [local go_sem] max2_int min2_int max_two min_two max_three min_three max_four min_four   -- for this text's walks alone
set_option linter.unusedVariables false
set_option linter.unusedSimpArgs false

/-! ### impl_with: function 122 -/
mutual
def impl_with.j1 : Nat → List Int → Int → Int → Option (List Int)
 | 0, _, _, _ => none
 | k + 1, x0, x1, x5 => if x5 < (x0.length : Int) then (if 0 ≤ x5 then (impl_with.j2 k x0 x1 x5 ((rd x0 x5) == x1)) else (none)) else (impl_with.j2 k x0 x1 x5 false)
def impl_with.j2 : Nat → List Int → Int → Int → Bool → Option (List Int)
 | 0, _, _, _, _ => none
 | k + 1, x0, x1, x5, x31 => if x31 = true then (some x0) else (if 0 ≤ x5 then (if x5 ≤ (x0.length : Int) then ((impl_copyInts.f (x0.take (x5 : Int).toNat)).bind fun t280 => ((some (([x1] : List Int) : List Int)).bind fun y283 => (if t280.length + y283.length < 17592186044416 then ((some (t280 ++ y283 : List Int)).bind fun y286 => (if y286.length + (x0.drop (x5 : Int).toNat).length < 17592186044416 then (some (y286 ++ (x0.drop (x5 : Int).toNat))) else (none))) else (none)))) else (none)) else (none))
def impl_with.l0 : Nat → List Int → Int → Int → Option (List Int)
 | 0, _, _, _ => none
 | k + 1, x0, x1, x5 => if x5 < (x0.length : Int) then (if 0 ≤ x5 then (if (rd x0 x5) < x1 then (impl_with.l0 k x0 x1 (wrap64 (x5 + 1))) else (impl_with.j1 k x0 x1 x5)) else (none)) else (impl_with.j1 k x0 x1 x5)
end
def impl_with.f (k : Nat) (l0 : List Int) (a1 : Int) : Option (List Int) := impl_with.l0 k l0 a1 0
theorem impl_with.mono_l : ∀ k, (∀ y0 y1 y2, LeO (impl_with.j1 k y0 y1 y2) (impl_with.j1 (k + 1) y0 y1 y2)) ∧ (∀ y0 y1 y2 y3, LeO (impl_with.j2 k y0 y1 y2 y3) (impl_with.j2 (k + 1) y0 y1 y2 y3)) ∧ (∀ y0 y1 y2, LeO (impl_with.l0 k y0 y1 y2) (impl_with.l0 (k + 1) y0 y1 y2))
 | 0 => ⟨fun _ _ _ r h => by simp [impl_with.j1] at h, fun _ _ _ _ r h => by simp [impl_with.j2] at h, fun _ _ _ r h => by simp [impl_with.l0] at h⟩
 | k + 1 => by
  obtain ⟨ih0, ih1, ih2⟩ := impl_with.mono_l k
  refine ⟨?_, ?_, ?_⟩
  ·intro y0 y1 y2
   unfold impl_with.j1
   repeat' first
   | (with_reducible exact ih0 _ _ _)
   | (with_reducible exact ih1 _ _ _ _)
   | (with_reducible exact ih2 _ _ _)
   | (with_reducible exact LeO.refl _)
   | (with_reducible exact LeO.none _)
   | (with_reducible refine LeO.ite ?_ ?_)
   | (with_reducible refine LeO.bind ?_ (fun _ => ?_))
   | exact ih0 _ _ _
   | exact ih1 _ _ _ _
   | exact ih2 _ _ _
   | exact LeO.none _
   | refine LeO.ite ?_ ?_
   | refine LeO.bind ?_ (fun _ => ?_)
  ·intro y0 y1 y2 y3
   unfold impl_with.j2
   repeat' first
   | (with_reducible exact ih0 _ _ _)
   | (with_reducible exact ih1 _ _ _ _)
   | (with_reducible exact ih2 _ _ _)
   | (with_reducible exact LeO.refl _)
   | (with_reducible exact LeO.none _)
   | (with_reducible refine LeO.ite ?_ ?_)
   | (with_reducible refine LeO.bind ?_ (fun _ => ?_))
   | exact ih0 _ _ _
   | exact ih1 _ _ _ _
   | exact ih2 _ _ _
   | exact LeO.none _
   | refine LeO.ite ?_ ?_
   | refine LeO.bind ?_ (fun _ => ?_)
  ·intro y0 y1 y2
   unfold impl_with.l0
   repeat' first
   | (with_reducible exact ih0 _ _ _)
   | (with_reducible exact ih1 _ _ _ _)
   | (with_reducible exact ih2 _ _ _)
   | (with_reducible exact LeO.refl _)
   | (with_reducible exact LeO.none _)
   | (with_reducible refine LeO.ite ?_ ?_)
   | (with_reducible refine LeO.bind ?_ (fun _ => ?_))
   | exact ih0 _ _ _
   | exact ih1 _ _ _ _
   | exact ih2 _ _ _
   | exact LeO.none _
   | refine LeO.ite ?_ ?_
   | refine LeO.bind ?_ (fun _ => ?_)
theorem impl_with.mono : ∀ a0 a1 k, LeO (impl_with.f k a0 a1) (impl_with.f (k + 1) a0 a1) := by
 intro a0 a1 k
 obtain ⟨ih0, ih1, ih2⟩ := impl_with.mono_l k
 unfold impl_with.f
 repeat' first
   | (with_reducible exact ih0 _ _ _)
   | (with_reducible exact ih1 _ _ _ _)
   | (with_reducible exact ih2 _ _ _)
   | (with_reducible exact LeO.refl _)
   | (with_reducible exact LeO.none _)
   | (with_reducible refine LeO.ite ?_ ?_)
   | (with_reducible refine LeO.bind ?_ (fun _ => ?_))
   | exact ih0 _ _ _
   | exact ih1 _ _ _ _
   | exact ih2 _ _ _
   | exact LeO.none _
   | refine LeO.ite ?_ ?_
   | refine LeO.bind ?_ (fun _ => ?_)
def impl_with.T6 : Bool × List (List Nat × List Nat) := (true, [([], []), ([], []), ([0, 1], [0, 1]), ([2], [2]), ([], []), ([4], [4]), ([3, 5, 3], [3, 5]), ([], []), ([], []), ([7, 8], [7, 8]), ([6, 9, 6], [6, 9]), ([10, 10, 0, 1, 2, 3, 4, 5, 6, 7, 8, 9, 10], [10])])
def impl_with.B6 : List Nat := [0, 0, 3, 7, 0, 16, 63, 0, 0, 384, 1023, 2047]
theorem impl_with.tab6 : rtab .any (opsOf Try.f122 6) = impl_with.T6 := by kernel_rfl
theorem impl_with.bits6 : waitsOk impl_with.T6.2 impl_with.B6 = true := by kernel_rfl
set_option maxHeartbeats 8000000 in
set_option maxRecDepth 100000 in
theorem impl_with.calls (k : Nat) (A0 : Option Addr) (c0 : Nat) (l0 : List Int) (a1 : Int) (r : List Int) (w : World) (hr0 : Kd.C (Kd.int .i64) w A0 l0.length l0) (hc0 : l0.length ≤ c0) (h : impl_with.f k l0 a1 = some r) :
  Calls Try.prog 122 #[.slice A0 l0.length c0, .int .i64 a1] w fun e w' => ∃ v0_ : Value, e = .returned (v0_) ∧ (Kd.R (Kd.int .i64) 3 w' w.heap.size (fun _ => True) v0_ r ∨ (v0_ = .slice A0 l0.length c0 ∧ r = l0)) ∧ Below w.heap.size w w' := by
 have HR0 := Aside0.mk hr0
 have HC0 := Aside0.mk hc0
 clear hr0 hc0
 have HB := Aside0.mk (Below.refl w.heap.size w)
 have H : (impl_with.l0 k l0 a1 0) = some r := h
 clear h
 have HC3 := Aside0.mk H
 clear H
 go_enter Try.func122, Try.ntmps122
 go_upto_block 0 with (fail)
 go_cut [5] (fun v5 wc => ∃ (kq : Nat) (x5_2 : Int), v5 = .int .i64 x5_2 ∧ Aside0 (impl_with.j1 kq l0 a1 x5_2 = some r) ∧ Aside0 (kq ≤ k) ∧ Aside0 (Below w.heap.size w wc))
 case first =>
  have H := HC3.out
  clear HC3
  have H' := Aside0.mk H
  clear H
  go_wp2
  go_loopg [5] k (fun kq v5 w' => ∃ (x5_1 : Int), v5 = .int .i64 x5_1 ∧ Aside0 (impl_with.l0 kq l0 a1 x5_1 = some r) ∧ Aside0 (kq ≤ k) ∧ Aside0 (Below w.heap.size w w'))
  case atStart => exact ⟨(0), (by first | rfl | (simp; done) | (simp [*]; done)), H', ⟨Nat.le_refl _⟩, ⟨bw_q HB⟩⟩
  case round =>
   clear H'
   try clear c1
   try clear p2
   obtain ⟨x5_1, rfl, HA, HK1, HB⟩ := hrel
   cases gk with
   | zero => exact absurd HA.out (by simp [impl_with.l0])
   | succ k1 =>
    have H := HA.out
    clear HA
    simp only [impl_with.l0] at H
    by_cases c4 : x5_1 < (l0.length : Int)
    ·rw [if_pos c4] at H
     have c4b0 : decide (x5_1 < (l0.length : Int)) = true := decide_eq_true c4
     clear c4
     (first | rw [c4b0] | rw [c4b1] | (simp only [i64_w, i32_w]; first | rw [c4b0] | rw [c4b1]) | skip)
     by_cases c5 : 0 ≤ x5_1
     ·rw [if_pos c5] at H
      have c5b0 : decide (0 ≤ x5_1) = true := decide_eq_true c5
      clear c5
      have HC6 := Aside0.mk H
      clear H
      have p274 : 0 ≤ (x5_1 : Int) := of_decide_eq_true as_q
      have q274 : x5_1 < (l0.length : Int) := of_decide_eq_true as_q
      obtain ⟨ad274, e274, hx274_0⟩ := Kd.at_int HR0.out x5_1 p274 q274
      cases e274
      replace hx274_0 := (HB.out.cell (World.block_lt_of_cell? w _ hx274_0)).trans hx274_0
      replace p274 := eq_true p274
      replace q274 := eq_true q274
      go_upto_if 17 with (fail)
      (try clear hx274_0)
      have H := HC6.out
      clear HC6
      by_cases c7 : (rd l0 x5_1) < a1
      ·rw [if_pos c7] at H
       have c7b0 : decide ((rd l0 x5_1) < a1) = true := decide_eq_true c7
       clear c7
       (first | rw [c7b0] | rw [c7b1] | (simp only [i64_w, i32_w]; first | rw [c7b0] | rw [c7b1]) | skip)
       have H' := Aside0.mk H
       clear H
       go_wp2
       go_roundg k1
       case measure => have := HK1.out; omega
       case rel => exact ⟨(wrap64 (x5_1 + 1)), (by first | rfl | (simp; done) | (simp [*]; done)), H', ⟨by have := HK1.out; omega⟩, ⟨bw_q HB⟩⟩
      ·rw [if_neg c7] at H
       have c7b0 : decide ((rd l0 x5_1) < a1) = false := decide_eq_false c7
       clear c7
       (first | rw [c7b0] | rw [c7b1] | (simp only [i64_w, i32_w]; first | rw [c7b0] | rw [c7b1]) | skip)
       have H' := Aside0.mk H
       clear H
       go_wp2
       go_meet
       case rel => exact ⟨_, (x5_1), (by first | rfl | (simp; done) | (simp [*]; done)), H', ⟨by have := HK1.out; first | omega | exact Nat.le_refl _⟩, ⟨bw_q HB⟩⟩
     ·rw [if_neg c5] at H
      exact absurd H (by simp)
    ·rw [if_neg c4] at H
     have c4b0 : decide (x5_1 < (l0.length : Int)) = false := decide_eq_false c4
     clear c4
     (first | rw [c4b0] | rw [c4b1] | (simp only [i64_w, i32_w]; first | rw [c4b0] | rw [c4b1]) | skip)
     have H' := Aside0.mk H
     clear H
     go_wp2
     go_meet
     case rel => exact ⟨_, (x5_1), (by first | rfl | (simp; done) | (simp [*]; done)), H', ⟨by have := HK1.out; first | omega | exact Nat.le_refl _⟩, ⟨bw_q HB⟩⟩
 case rest =>
  clear HC3
  try clear c1
  try clear p2
  try clear q2
  try clear hx2
  try clear c4
  try clear c4b0
  try clear c4b1
  try clear c5
  try clear c5b0
  try clear p6
  try clear c7
  try clear c7b0
  try clear c7b1
  try clear hx274_0
  try clear p2
  try clear p274
  try clear q274
  obtain ⟨kq, x5_2, rfl, HA, HJ2, HB⟩ := hcut
  cases kq with
  | zero => exact absurd HA.out (by simp [impl_with.j1])
  | succ kj2 =>
   have H := HA.out
   clear HA
   simp only [impl_with.j1] at H
   have HC8 := Aside0.mk H
   clear H
   go_upto_region 4 with (fail)
   go_cut [31] (fun v31 wc => ∃ (kq : Nat) (x31_7 : Bool), v31 = .bool x31_7 ∧ Aside0 (impl_with.j2 kq l0 a1 x5_2 x31_7 = some r) ∧ Aside0 (kq ≤ kj2) ∧ Aside0 (Below w.heap.size w wc))
   case first =>
    have H := HC8.out
    clear HC8
    by_cases c9 : x5_2 < (l0.length : Int)
    ·rw [if_pos c9] at H
     have c9b0 : decide (x5_2 < (l0.length : Int)) = true := decide_eq_true c9
     clear c9
     (first | rw [c9b0] | rw [c9b1] | (simp only [i64_w, i32_w]; first | rw [c9b0] | rw [c9b1]) | skip)
     by_cases c10 : 0 ≤ x5_2
     ·rw [if_pos c10] at H
      have c10b0 : decide (0 ≤ x5_2) = true := decide_eq_true c10
      clear c10
      have H' := Aside0.mk H
      clear H
      have p275 : 0 ≤ (x5_2 : Int) := of_decide_eq_true as_q
      have q275 : x5_2 < (l0.length : Int) := of_decide_eq_true as_q
      obtain ⟨ad275, e275, hx275_0⟩ := Kd.at_int HR0.out x5_2 p275 q275
      cases e275
      replace hx275_0 := (HB.out.cell (World.block_lt_of_cell? w _ hx275_0)).trans hx275_0
      replace p275 := eq_true p275
      replace q275 := eq_true q275
      go_wp2
      go_meet
      case rel => exact ⟨_, (((rd l0 x5_2) == a1)), (by first | rfl | (simp; done) | (simp [*]; done)), H', ⟨by have := HJ2.out; first | omega | exact Nat.le_refl _⟩, ⟨bw_q HB⟩⟩
     ·rw [if_neg c10] at H
      exact absurd H (by simp)
    ·rw [if_neg c9] at H
     have c9b0 : decide (x5_2 < (l0.length : Int)) = false := decide_eq_false c9
     clear c9
     (first | rw [c9b0] | rw [c9b1] | (simp only [i64_w, i32_w]; first | rw [c9b0] | rw [c9b1]) | skip)
     have H' := Aside0.mk H
     clear H
     go_wp2
     go_meet
     case rel => exact ⟨_, (false), (by first | rfl | (simp; done) | (simp [*]; done)), H', ⟨by have := HJ2.out; first | omega | exact Nat.le_refl _⟩, ⟨bw_q HB⟩⟩
   case rest =>
    clear HC8
    try clear c1
    try clear p2
    try clear q2
    try clear hx2
    try clear c4
    try clear c4b0
    try clear c4b1
    try clear c5
    try clear c5b0
    try clear p6
    try clear c7
    try clear c7b0
    try clear c7b1
    try clear c9
    try clear c9b0
    try clear c9b1
    try clear c10
    try clear c10b0
    try clear hx274_0
    try clear hx275_0
    try clear p2
    try clear p274
    try clear p275
    try clear p6
    try clear q2
    try clear q274
    try clear q275
    obtain ⟨kq, x31_7, rfl, HA, HJ7, HB⟩ := hcut
    cases kq with
    | zero => exact absurd HA.out (by simp [impl_with.j2])
    | succ kj7 =>
     have H := HA.out
     clear HA
     simp only [impl_with.j2] at H
     by_cases c11 : x31_7 = true
     ·subst c11
      have H1 : (some l0) = some r := by rw [if_pos rfl] at H; exact H
      clear H
      have H := H1
      clear H1
      obtain rfl := Option.some.inj H
      go_wp2
      go_ret
      exact ⟨_, er_q, .inr (by first | exact ⟨rfl, rfl⟩ | rfl | (simp; done)), bw_q HB⟩
     ·replace c11 := Bool.eq_false_iff.mpr c11
      subst c11
      have H1 : (if 0 ≤ x5_2 then (if x5_2 ≤ (l0.length : Int) then ((impl_copyInts.f (l0.take (x5_2 : Int).toNat)).bind fun t280 => ((some (([a1] : List Int) : List Int)).bind fun y283 => (if t280.length + y283.length < 17592186044416 then ((some (t280 ++ y283 : List Int)).bind fun y286 => (if y286.length + (l0.drop (x5_2 : Int).toNat).length < 17592186044416 then (some (y286 ++ (l0.drop (x5_2 : Int).toNat))) else (none))) else (none)))) else (none)) else (none)) = some r := by rw [if_neg (show ¬ (false = true) by decide)] at H; exact H
      clear H
      have H := H1
      clear H1
      by_cases c14 : 0 ≤ x5_2
      ·rw [if_pos c14] at H
       have c14b0 := eq_true c14
       have c14b1 : decide (0 ≤ x5_2) = true := decide_eq_true c14
       clear c14
       by_cases c15 : x5_2 ≤ (l0.length : Int)
       ·rw [if_pos c15] at H
        have c15b0 := eq_true c15
        have c15b1 : decide (x5_2 ≤ (l0.length : Int)) = true := decide_eq_true c15
        clear c15
        replace H := Option.bind_eq_some_iff.mp H
        obtain ⟨t280, A160, H⟩ := H
        replace H : ((some (([a1] : List Int) : List Int)).bind fun y283 => (if t280.length + y283.length < 17592186044416 then ((some (t280 ++ y283 : List Int)).bind fun y286 => (if y286.length + (l0.drop (x5_2 : Int).toNat).length < 17592186044416 then (some (y286 ++ (l0.drop (x5_2 : Int).toNat))) else (none))) else (none))) = some r := H
        have A16 := Aside0.mk A160
        clear A160
        obtain ⟨y283, hy283⟩ : ∃ y_ : List Int, y_ = (([a1] : List Int)) := ⟨_, rfl⟩
        replace H : (if t280.length + y283.length < 17592186044416 then ((some (t280 ++ y283 : List Int)).bind fun y286 => (if y286.length + (l0.drop (x5_2 : Int).toNat).length < 17592186044416 then (some (y286 ++ (l0.drop (x5_2 : Int).toNat))) else (none))) else (none)) = some r := by first | (rw [hy283]; with_reducible exact H) | (have H2_ := (Option.bind_some _ _).symm.trans H; rw [hy283]; with_reducible exact H2_) | (have H2_ := (Option.bind_some _ _).symm.trans H; with_reducible exact H2_) | with_reducible exact H | (rw [hy283]; exact H) | exact H
        have Ny283 := Aside0.mk hy283
        clear hy283
        by_cases c17 : t280.length + y283.length < 17592186044416
        ·rw [if_pos c17] at H
         have LMc17 := Aside0.mk c17
         clear c17
         obtain ⟨y286, hy286⟩ : ∃ y_ : List Int, y_ = (t280 ++ y283) := ⟨_, rfl⟩
         replace H : (if y286.length + (l0.drop (x5_2 : Int).toNat).length < 17592186044416 then (some (y286 ++ (l0.drop (x5_2 : Int).toNat))) else (none)) = some r := by first | (rw [hy286]; with_reducible exact H) | (have H2_ := (Option.bind_some _ _).symm.trans H; rw [hy286]; with_reducible exact H2_) | (have H2_ := (Option.bind_some _ _).symm.trans H; with_reducible exact H2_) | with_reducible exact H | (rw [hy286]; exact H) | exact H
         have Ny286 := Aside0.mk hy286
         clear hy286
         have c18b0 := eq_true (of_decide_eq_true as_q : 0 ≤ x5_2)
         have c19b0 := eq_true (of_decide_eq_true as_q : x5_2 ≤ (l0.length : Int))
         by_cases c20 : y286.length + (l0.drop (x5_2 : Int).toNat).length < 17592186044416
         ·rw [if_pos c20] at H
          have LMc20 := Aside0.mk c20
          clear c20
          obtain ⟨y290, hy290⟩ : ∃ y_ : List Int, y_ = (y286 ++ (l0.drop (x5_2 : Int).toNat)) := ⟨_, rfl⟩
          replace H : (some y290) = some r := by first | (rw [hy290]; with_reducible exact H) | (have H2_ := (Option.bind_some _ _).symm.trans H; rw [hy290]; with_reducible exact H2_) | (have H2_ := (Option.bind_some _ _).symm.trans H; with_reducible exact H2_) | with_reducible exact H | (rw [hy290]; exact H) | exact H
          have Ny290 := Aside0.mk hy290
          clear hy290
          obtain rfl := Option.some.inj H
          try go_wp2
          replace HB := Aside0.mk (below_drew1 HB.out)
          obtain ⟨i022, hi022, _, hsz22, _⟩ := info_parts info3
          obtain ⟨hcut22, hA22, hC22⟩ := print_take_of (P := Try.prog) (Value.int .i64) 0 35 3 .i64 Try.underlying35 hi022 hsz22 A0 c0 l0 x5_2 (of_decide_eq_true as_q) (of_decide_eq_true as_q) HC0.out
          have HR279 := Aside0.mk (Kd.C_of_reads (h1 := fun _ => rfl) (hA22 _ (Kd.reads_of_C HR0.out)))
          have HC279 := Aside0.mk hC22
          clear hA22 hC22 hi022 hsz22
          obtain ⟨i023, hi023, _, hsz23, _⟩ := info_parts info3
          obtain ⟨A23, hcut23, hA23, hC23⟩ := print_drop_of (P := Try.prog) (Value.int .i64) 0 35 3 .i64 Try.underlying35 hi023 hsz23 A0 c0 l0 x5_2 (of_decide_eq_true as_q) (of_decide_eq_true as_q) HC0.out
          have HR289 := Aside0.mk (Kd.C_of_reads (h1 := fun _ => rfl) (hA23 _ (Kd.reads_of_C HR0.out)))
          have HC289 := Aside0.mk hC23
          clear hA23 hC23 hi023 hsz23
          refine start_ (n := 12) (S := fun w' => True) (ds := []) (bL 12 0) (by kernel_rfl) rfl rfl trivial (fun hHeld => ?_); refine with_tabW impl_with.tab6 impl_with.bits6 (fun HT_ HW_ => ?_)
          generalize wc.drew = w21 at HB HR279 HR289 hHeld ⊢
          refine pq_ 0 33 (bL 12 1) HT_.out rfl rfl ?_
          refine pq_ 1 34 (bL 12 3) HT_.out rfl rfl ?_
          refine pq_ 2 35 (bL 12 7) HT_.out rfl rfl ?_
          refine pq_ 4 37 (bL 12 23) HT_.out rfl rfl ?_
          refine pq_ 7 40 (bL 12 151) HT_.out rfl rfl ?_
          refine pq_ 8 41 (bL 12 407) HT_.out rfl rfl ?_
          refine pq_ 9 42 (bL 12 919) HT_.out rfl rfl ?_
          refine join_ (σ := Value × Value) 3 (bL 12 959) (fun s_ => [(36, s_.1), (38, s_.2)]) (fun s_ w' => (Kd.R (Kd.int .i64) 3 w' w.heap.size (fun k_ => some k_ ≠ (s_.2 : Value).ownBlock) s_.1 t280) ∧ (Kd.R (Kd.int .i64) 3 w' w.heap.size (fun k_ => some k_ ≠ (s_.1 : Value).ownBlock) s_.2 y283) ∧ (Below w.heap.size w w')) ?_ ?_
          rotate_left
          ·intro hCont
           refine two_ (i := 3) (j := 5) (Ni := some 36) (Nj := some 38) (bL 12 927) (bL 12 951) rfl rfl rfl rfl (two_of HT_.out (by kernel_rfl)) (by decide) (by decide) (fun K hK => ?_) (fun K hK => ?_)
           ·skip
            refine goes_ Try.func134 (by kernel_rfl) rfl #[.slice A0 (l0.take (x5_2 : Int).toNat).length c0] (by rfl) rfl rfl (by (try simp only [List.map_toArray, List.map_cons, List.map_nil]); first | done | (rw [show (l0.take (x5_2 : Int).toNat).length = x5_2.toNat from (by rw [List.length_take]; have h_ : (x5_2 : Int) ≤ (l0.length : Int) := of_decide_eq_true as_q; omega)] <;> rfl) | rfl | (simp only [List.length_drop, List.length_take]; rfl)) ?_
            with_reducible refine (impl_copyInts.calls _ _ (l0.take (x5_2 : Int).toNat) t280 _ ?side1 ?side2 A16.out).mono ?_
            (case side1 => exact cs_q (Kd.C_below HR279.out HB.out))
            (case side2 => exact HC279.out)
            rintro e w24 ⟨v281, rfl, ho0, hb⟩
            refine ⟨_, rfl, ?_⟩
            have HO282 := Aside0.mk (Kd.R_lower ho0 (below_size (bw_q HB)))
            replace HB := Aside0.mk (below_step (bw_q HB) hb)
            (try clear hb)
            (try clear hb2)
            (try clear hk)
            (try clear hi)
            (try clear ho0)
            refine hK.out _ _ trivial (fun hHeld => ?_)
            clear hK K
            refine norm_ (a' := ?_) ?_ ?_; rotate_left; (show Act.put _ (some 36) _ = _; simp only [Act.put, List.setIfInBounds_toArray, List.set_cons_zero, List.set_cons_succ, i64_w, i32_w]; rfl)
            refine one_ (i := 5) (N := some 38) (bL 12 959) rfl rfl (one_of HT_.out (by kernel_rfl)) (by decide) (fun K hK => ?_)
            refine Kd.R_lit_step (Kd.int .i64) _ 3 ?hg (N := 38) ?hd (xs := ([a1] : List Int)) (inner := [.int .i64 a1]) (ok := fun _ => True) (okp := fun _ => True) ?hr ?hp (fun _ hk => hk) trivial (Below.refl _ _) (Nat.le_refl _) (by simp) ?_; (case hd => rfl); (case hg => rfl); (case hr => first | (go_simp; done) | (go_simp; rfl)); (case hp => exact (Reps.one (show Kd.M (Kd.int .i64) _ _ _ a1 [.int .i64 a1] from rfl) (Reps.none _ _)))
            intro v284 w25 ho26 hb hg_ hnew_
            clear hg_ hnew_
            (first | rw [← Ny283.out] at ho26 | (simp only [Int.reduceToNat] at ho26; rw [← Ny283.out] at ho26))
            have HO285 := Aside0.mk (Kd.R_lower (Kd.R_new' ho26 (Kd.R_lt (kR_q HO282))) (below_size (bw_q HB)))
            replace HO282 := Aside0.mk (Kd.R_elder' (kR_q HO282) (Kd.R_base ho26) hb)
            replace HB := Aside0.mk (below_step (bw_q HB) hb)
            clear hb ho26
            refine hK.out _ _ trivial (fun hHeld => ?_)
            clear hK K
            refine norm_ (a' := ?_) ?_ ?_; rotate_left; (show Act.put _ (some 38) _ = _; simp only [Act.put, List.setIfInBounds_toArray, List.set_cons_zero, List.set_cons_succ, i64_w, i32_w]; rfl)
            exact norm_ (by simp only [putAll, Act.put, List.setIfInBounds_toArray, List.set_cons_zero, List.set_cons_succ]) (hCont (v281, v284) _ ⟨(by (with_reducible repeat (first | apply Kd.R_alloc | apply Kd.R_drewN | apply Kd.R_drew)); exact Kd.R_mono HO282.out (fun _ hk => hk.2)), (by (with_reducible repeat (first | apply Kd.R_alloc | apply Kd.R_drewN | apply Kd.R_drew)); exact Kd.R_mono HO285.out (fun _ hk => hk.2)), (bw_q HB)⟩)
           ·skip
            refine Kd.R_lit_step (Kd.int .i64) _ 3 ?hg (N := 38) ?hd (xs := ([a1] : List Int)) (inner := [.int .i64 a1]) (ok := fun _ => True) (okp := fun _ => True) ?hr ?hp (fun _ hk => hk) trivial (Below.refl _ _) (Nat.le_refl _) (by simp) ?_; (case hd => rfl); (case hg => rfl); (case hr => first | (go_simp; done) | (go_simp; rfl)); (case hp => exact (Reps.one (show Kd.M (Kd.int .i64) _ _ _ a1 [.int .i64 a1] from rfl) (Reps.none _ _)))
            intro v284 w24 ho25 hb hg_ hnew_
            clear hg_ hnew_
            (first | rw [← Ny283.out] at ho25 | (simp only [Int.reduceToNat] at ho25; rw [← Ny283.out] at ho25))
            have HO285 := Aside0.mk (Kd.R_lower ho25 (below_size (bw_q HB)))
            replace HB := Aside0.mk (below_step (bw_q HB) hb)
            clear hb ho25
            refine hK.out _ _ trivial (fun hHeld => ?_)
            clear hK K
            refine norm_ (a' := ?_) ?_ ?_; rotate_left; (show Act.put _ (some 38) _ = _; simp only [Act.put, List.setIfInBounds_toArray, List.set_cons_zero, List.set_cons_succ, i64_w, i32_w]; rfl)
            refine one_ (i := 3) (N := some 36) (bL 12 959) rfl rfl (one_of HT_.out (by kernel_rfl)) (by decide) (fun K hK => ?_)
            refine goes_ Try.func134 (by kernel_rfl) rfl #[.slice A0 (l0.take (x5_2 : Int).toNat).length c0] (by rfl) rfl rfl (by (try simp only [List.map_toArray, List.map_cons, List.map_nil]); first | done | (rw [show (l0.take (x5_2 : Int).toNat).length = x5_2.toNat from (by rw [List.length_take]; have h_ : (x5_2 : Int) ≤ (l0.length : Int) := of_decide_eq_true as_q; omega)] <;> rfl) | rfl | (simp only [List.length_drop, List.length_take]; rfl)) ?_
            with_reducible refine (impl_copyInts.calls _ _ (l0.take (x5_2 : Int).toNat) t280 _ ?side1 ?side2 A16.out).mono ?_
            (case side1 => exact cs_q (Kd.C_below HR279.out HB.out))
            (case side2 => exact HC279.out)
            rintro e w26 ⟨v281, rfl, ho0, hb⟩
            refine ⟨_, rfl, ?_⟩
            have HO282 := Aside0.mk (Kd.R_lower (Kd.R_new' ho0 (Kd.R_lt (kR_q HO285))) (below_size (bw_q HB)))
            replace HO285 := Aside0.mk (Kd.R_elder' (kR_q HO285) (Kd.R_base ho0) hb)
            replace HB := Aside0.mk (below_step (bw_q HB) hb)
            (try clear hb)
            (try clear hb2)
            (try clear hk)
            (try clear hi)
            (try clear ho0)
            refine hK.out _ _ trivial (fun hHeld => ?_)
            clear hK K
            refine norm_ (a' := ?_) ?_ ?_; rotate_left; (show Act.put _ (some 36) _ = _; simp only [Act.put, List.setIfInBounds_toArray, List.set_cons_zero, List.set_cons_succ, i64_w, i32_w]; rfl)
            exact norm_ (by simp only [putAll, Act.put, List.setIfInBounds_toArray, List.set_cons_zero, List.set_cons_succ]) (hCont (v281, v284) _ ⟨(by (with_reducible repeat (first | apply Kd.R_alloc | apply Kd.R_drewN | apply Kd.R_drew)); exact Kd.R_mono HO282.out (fun _ hk => hk.2)), (by (with_reducible repeat (first | apply Kd.R_alloc | apply Kd.R_drewN | apply Kd.R_drew)); exact Kd.R_mono HO285.out (fun _ hk => hk.2)), (bw_q HB)⟩)
          rintro ⟨v281, v284⟩ w27 ⟨h0_, h1_, h2_⟩
          have HO282 : Aside0 (Kd.R (Kd.int .i64) 3 w27 w.heap.size (fun k_ => some k_ ≠ (v284 : Value).ownBlock) v281 t280) := ⟨h0_⟩
          have HO285 : Aside0 (Kd.R (Kd.int .i64) 3 w27 w.heap.size (fun k_ => some k_ ≠ (v281 : Value).ownBlock) v284 y283) := ⟨h1_⟩
          replace HB : Aside0 (Below w.heap.size w w27) := ⟨h2_⟩
          clear h0_ h1_ h2_
          have hHeld := trivial
          obtain ⟨Ao29, co29, eo29⟩ := Kd.R_slice HO285.out
          (first | subst eo29 | (injection eo29 with f1_ f2_ f3_; have f4_ := f1_.symm; have f5_ := f3_.symm; clear f1_ f2_ f3_; subst f4_; subst f5_))
          refine norm_ (a' := ?_) ?_ ?_
          rotate_left
          ·simp only [putAll, Act.put, List.setIfInBounds_toArray, List.set_cons_zero, List.set_cons_succ]
           rfl
          refine one_ (i := 6) (N := some 39) (bL 12 1023) rfl rfl (one_of HT_.out (by kernel_rfl)) (by decide) (fun K hK => ?_)
          refine Kd.R_append_rows_step (Kd.int .i64) (w0 := w) w.heap.size (by rfl) (.tmp 36) (.tmp 38) 35 3 (.int .i64 0) 8 rfl Try.underlying35 info3 rfl (by decide) (by omega) v281 t280 y283 _ _ _ (fun k_ => some k_ ≠ (.slice Ao29 y283.length co29 : Value).ownBlock) (fun _ => False) rfl rfl ?aO ?aR (fun _ _ h => h) (fun _ h => h.elim) ?aF ?aB ?aS ?aL ?_
          (case aR => repeat (first | exact (Kd.R_reads' HO285.out).2.2 | (with_reducible refine Kd.C_alloc ?_ _) | (with_reducible refine Kd.C_drewN ?_ _) | (with_reducible refine Kd.C_drew ?_)))
          (case aB => exact (bw_q HB))
          (case aF => exact (fun k_ hk => Kd.fresh' (Kd.R_lt (kR_q HO285)) k_ hk))
          (case aO => exact (kR_q HO282))
          (case aS => exact (below_size (bw_q HB)))
          (case aL => have := LMc17.out; omega)
          intro v287 w28 ho hb hg hat
          rw [← Ny286.out] at ho
          replace HO285 := Aside0.mk (Kd.R_after (ok := (fun _ => True)) (by (with_reducible repeat (first | apply Kd.R_alloc | apply Kd.R_drewN | apply Kd.R_drew)); exact Kd.R_mono HO285.out (fun _ hk => ⟨trivial, hk⟩)) hg hat)
          replace HB := Aside0.mk (hb)
          have HO288 := Aside0.mk (ho)
          clear HO282
          clear ho hb hg hat
          refine hK.out _ _ trivial (fun hHeld => ?_)
          clear hK K
          refine norm_ (a' := ?_) ?_ ?_; rotate_left; (show Act.put _ (some 39) _ = _; simp only [Act.put, List.setIfInBounds_toArray, List.set_cons_zero, List.set_cons_succ, i64_w, i32_w]; rfl)
          refine one_ (i := 10) (N := some 43) (bL 12 2047) rfl rfl (one_of HT_.out (by kernel_rfl)) (by decide) (fun K hK => ?_)
          refine Kd.R_append_rows_step (Kd.int .i64) (w0 := w) w.heap.size (by rfl) (.tmp 39) (.tmp 42) 35 3 (.int .i64 0) 8 rfl Try.underlying35 info3 rfl (by decide) (by omega) v287 y286 (l0.drop (x5_2 : Int).toNat) _ _ _ (fun k_ => some k_ ≠ (.slice Ao29 y283.length co29 : Value).ownBlock) (fun _ => False) rfl rfl ?aO ?aR (fun _ _ h => h) (fun _ h => h.elim) ?aF ?aB ?aS ?aL ?_
          (case aR => first | (rw [← show (l0.drop (x5_2 : Int).toNat).length = (l0.length - x5_2.toNat) from List.length_drop]; exact cs_q (Kd.C_below HR289.out HB.out)) | (exact cs_q (Kd.C_below HR289.out HB.out)))
          (case aB => exact (bw_q HB))
          (case aF => exact (fun k_ hk => Kd.fresh' (Kd.R_lt (kR_q HO285)) k_ hk))
          (case aO => exact (kR_q HO288))
          (case aS => exact (below_size (bw_q HB)))
          (case aL => have := LMc20.out; have hlx_ := (show (l0.drop (x5_2 : Int).toNat).length = (l0.length - x5_2.toNat) from List.length_drop); omega)
          intro v291 w30 ho hb hg hat
          rw [← Ny290.out] at ho
          replace HO285 := Aside0.mk (Kd.R_after (ok := (fun _ => True)) (kR_q HO285) hg hat)
          replace HB := Aside0.mk (hb)
          have HO292 := Aside0.mk (ho)
          clear HO288
          clear ho hb hg hat
          refine hK.out _ _ trivial (fun hHeld => ?_)
          clear hK K
          refine norm_ (a' := ?_) ?_ ?_; rotate_left; (show Act.put _ (some 43) _ = _; simp only [Act.put, List.setIfInBounds_toArray, List.set_cons_zero, List.set_cons_succ, i64_w, i32_w]; rfl)
          refine pq_ 11 4 (bL 12 4095) HT_.out rfl rfl ?_
          refine done_ (done_of HT_.out (by kernel_rfl)) ?_
          try go_wp2
          go_ret
          exact ⟨_, er_q, .inl (by (with_reducible repeat (first | apply Kd.R_alloc | apply Kd.R_drewN | apply Kd.R_drew)); exact Kd.R_mono HO292.out (fun _ hk => trivial)), bw_q HB⟩
         ·rw [if_neg c20] at H
          exact absurd H (by simp)
        ·rw [if_neg c17] at H
         exact absurd H (by simp)
       ·rw [if_neg c15] at H
        exact absurd H (by simp)
      ·rw [if_neg c14] at H
       exact absurd H (by simp)

end Go.Proofs.Ythjmdiggglkeaaa.Q
