import Derived.Test.YthjmdiggglkeaaaXMergeQS
import Derived.Test.YthjmdiggglkeaaaXMergeQimplcopyRecord
import Derived.Test.YthjmdiggglkeaaaXMergeQimplcopyRecords
import Derived.Test.YthjmdiggglkeaaaXMergeQimplInstall
/- A Go function as a Lean function, and its contract: for every input the Go code comes to what the Lean function tells. -/




namespace Go.Proofs.Ythjmdiggglkeaaa.Q
open Go.RowKit Go.Proofs.YthjmdiggglkeaaaW.PrintWords Go.Proofs.YthjmdiggglkeaaaW.PrintLast Go.Proofs.YthjmdiggglkeaaaW.PrintMore
attribute [local go_sem] max2_int min2_int max_two min_two max_three min_three max_four min_four   -- for this text's walks alone
set_option linter.unusedVariables false
set_option linter.unusedSimpArgs false

/-! ### impl_learned: function 97 -/
def impl_learned.l0 : Nat → List (S61) → List (S61) → List (S61) → Int → Int → Option ((List (S61)) × (List (S61)))
 | 0, _, _, _, _, _ => none
 | k + 1, x6, x7, x14, x15, x16 => if x16 < x15 then (if 0 ≤ x16 then (if x16 < (x14.length : Int) then ((impl_Install.f k x6 ((rd_T61 x14 x16).f0) ((rd_T61 x14 x16).f1) ((rd_T61 x14 x16).f2) ((rd_T61 x14 x16).f3) ((rd_T61 x14 x16).f4) ((rd_T61 x14 x16).f5) ((rd_T61 x14 x16).f6) ((rd_T61 x14 x16).f7)).bind fun bt692 => (if bt692.2 = true then ((impl_copyRecord.f ((rd_T61 x14 x16).f0) ((rd_T61 x14 x16).f1) ((rd_T61 x14 x16).f2) ((rd_T61 x14 x16).f3) ((rd_T61 x14 x16).f4) ((rd_T61 x14 x16).f5) ((rd_T61 x14 x16).f6) ((rd_T61 x14 x16).f7)).bind fun bt696 => (if x7.length < 1759218604441 then (impl_learned.l0 k bt692.1 (x7 ++ [(⟨bt696.1, bt696.2.1, bt696.2.2.1, bt696.2.2.2.1, bt696.2.2.2.2.1, bt696.2.2.2.2.2.1, bt696.2.2.2.2.2.2.1, bt696.2.2.2.2.2.2.2⟩ : S61)]) x14 x15 (wrap64 (x16 + 1))) else (none))) else (impl_learned.l0 k x6 x7 x14 x15 (wrap64 (x16 + 1))))) else (none)) else (none)) else (some (x6, x7))
def impl_learned.f (k : Nat) (l0 : List (S61)) (l1 : List (S61)) : Option ((List (S61)) × (List (S61))) := (impl_copyRecords.f k l0).bind fun t687 => (impl_learned.l0 k t687 ([] : List (S61)) l1 (l1.length : Int) 0)
theorem impl_learned.mono_l : ∀ k, (∀ y0 y1 y2 y3 y4, LeO (impl_learned.l0 k y0 y1 y2 y3 y4) (impl_learned.l0 (k + 1) y0 y1 y2 y3 y4))
 | 0 => fun _ _ _ _ _ r h => by simp [impl_learned.l0] at h
 | k + 1 => by
  have ih0 := impl_learned.mono_l k
  ·intro y0 y1 y2 y3 y4
   unfold impl_learned.l0
   repeat' first
   | (with_reducible exact ih0 _ _ _ _ _)
   | (with_reducible exact impl_Install.mono _ _ _ _ _ _ _ _ _ _)
   | (with_reducible exact impl_copyRecords.mono _ _)
   | (with_reducible exact LeO.refl _)
   | (with_reducible exact LeO.none _)
   | (with_reducible refine LeO.ite ?_ ?_)
   | (with_reducible refine LeO.bind ?_ (fun _ => ?_))
   | exact ih0 _ _ _ _ _
   | exact impl_Install.mono _ _ _ _ _ _ _ _ _ _
   | exact impl_copyRecords.mono _ _
   | exact LeO.none _
   | refine LeO.ite ?_ ?_
   | refine LeO.bind ?_ (fun _ => ?_)
theorem impl_learned.mono : ∀ a0 a1 k, LeO (impl_learned.f k a0 a1) (impl_learned.f (k + 1) a0 a1) := by
 intro a0 a1 k
 have ih0 := impl_learned.mono_l k
 unfold impl_learned.f
 repeat' first
   | (with_reducible exact ih0 _ _ _ _ _)
   | (with_reducible exact impl_Install.mono _ _ _ _ _ _ _ _ _ _)
   | (with_reducible exact impl_copyRecords.mono _ _)
   | (with_reducible exact LeO.refl _)
   | (with_reducible exact LeO.none _)
   | (with_reducible refine LeO.ite ?_ ?_)
   | (with_reducible refine LeO.bind ?_ (fun _ => ?_))
   | exact ih0 _ _ _ _ _
   | exact impl_Install.mono _ _ _ _ _ _ _ _ _ _
   | exact impl_copyRecords.mono _ _
   | exact LeO.none _
   | refine LeO.ite ?_ ?_
   | refine LeO.bind ?_ (fun _ => ?_)
set_option maxHeartbeats 8000000 in
set_option maxRecDepth 100000 in
theorem impl_learned.calls (k : Nat) (A0 : Option Addr) (c0 : Nat) (l0 : List (S61)) (A1 : Option Addr) (c1 : Nat) (l1 : List (S61)) (r1 : List (S61)) (r2 : List (S61)) (w : World) (hr0 : Kd.C k61 w A0 l0.length l0) (hc0 : l0.length ≤ c0) (hr1 : Kd.C k61 w A1 l1.length l1) (hc1 : l1.length ≤ c1) (h : impl_learned.f k l0 l1 = some (r1, r2)) :
  Calls Try.prog 97 #[.slice A0 l0.length c0, .slice A1 l1.length c1] w fun e w' => ∃ v0_ v1_ : Value, e = .returned (.tuple #[v0_, v1_]) ∧ Kd.S k61 61 w' w.heap.size (fun k_ => some k_ ≠ (v1_ : Value).ownBlock) v0_ r1 ∧ Kd.S k61 61 w' w.heap.size (fun k_ => some k_ ≠ (v0_ : Value).ownBlock) v1_ r2 ∧ Below w.heap.size w w' := by
 have hu61 := Try.underlying61
 have HR0 := Aside0.mk hr0
 have HC0 := Aside0.mk hc0
 clear hr0 hc0
 have HR1 := Aside0.mk hr1
 have HC1 := Aside0.mk hc1
 clear hr1 hc1
 have HB := Aside0.mk (Below.refl w.heap.size w)
 have H : ((impl_copyRecords.f k l0).bind fun t687 => (impl_learned.l0 k t687 ([] : List (S61)) l1 (l1.length : Int) 0)) = some (r1, r2) := h
 clear h
 replace H := Option.bind_eq_some_iff.mp H
 obtain ⟨t687, A30, H⟩ := H
 replace H : (impl_learned.l0 k t687 ([] : List (S61)) l1 (l1.length : Int) 0) = some (r1, r2) := H
 have A3 := Aside0.mk A30
 clear A30
 have H' := Aside0.mk H
 clear H
 go_enter Try.func97, Try.ntmps97
 go_wp2_with (first | ((with_reducible refine gate_callee (f := 135) rfl ?_); refine goesL_ (some 13) rfl rfl Try.func135 (by kernel_rfl) rfl #[.slice A0 l0.length c0] rfl mp_q ?_; (with_reducible refine (impl_copyRecords.calls k _ _ l0 t687 _ ?side1 ?side2 A3.out).mono ?_); (case side1 => repeat (first | exact HR0.out | (with_reducible refine Kd.C_alloc ?_ _) | (with_reducible refine Kd.C_drewN ?_ _) | (with_reducible refine Kd.C_drew ?_))); (case side2 => exact HC0.out); rintro e w4 ⟨v688, rfl, ho0, hb⟩; refine ⟨_, rfl, ?_⟩; have n0_ := Aside0.mk (Kd.S_lower ho0 (below_size (bw_q HB))); have n1_ := Aside0.mk (below_step (bw_q HB) hb); clear HB; have HO689 := n0_; have HB := n1_; clear n0_ n1_; (try clear hb); (try clear hb2); (try clear hk); (try clear hi); (try clear ho0)))
 go_loopg [6, 7, 16] k (fun kq v6 v7 v16 w' => ∃ (x6_1 : List (S61)) (x7_1 : List (S61)) (x16_1 : Int), v16 = .int .i64 x16_1 ∧ Aside0 (impl_learned.l0 kq x6_1 x7_1 l1 (l1.length : Int) x16_1 = some (r1, r2)) ∧ Aside0 (kq ≤ k) ∧ Aside0 (Kd.S k61 61 w' w.heap.size (fun k_ => some k_ ≠ (v7 : Value).ownBlock) v6 x6_1) ∧ Aside0 (Kd.S k61 61 w' w.heap.size (fun k_ => some k_ ≠ (v6 : Value).ownBlock) v7 x7_1) ∧ Aside0 (Below w.heap.size w w'))
 case atStart => exact ⟨(t687), (([] : List (S61))), (0), (by first | rfl | (simp; done) | (simp [*]; done)), H', ⟨Nat.le_refl _⟩, ⟨by (with_reducible repeat (first | apply Kd.S_alloc | apply Kd.S_drewN | apply Kd.S_drew)); exact Kd.S_mono HO689.out (fun _ hk => (by simp [Value.ownBlock]))⟩, ⟨by first | exact Kd.S_nil _ _ _ _ _ | exact Kd.N_nil _ _ _ _ _ | exact Kd.V_nil _ _ _ _ _ | exact Kd.Q_nil _ _ _ _ _ | exact Kd.R_nil _ _ _ _ _⟩, ⟨bw_q HB⟩⟩
 case round =>
  clear H'
  try clear c1
  try clear p2
  obtain ⟨x6_1, x7_1, x16_1, rfl, HA, HK1, HO_6, HO_7, HB⟩ := hrel
  cases gk with
  | zero => exact absurd HA.out (by simp [impl_learned.l0])
  | succ k1 =>
   have H := HA.out
   clear HA
   simp only [impl_learned.l0] at H
   by_cases c5 : x16_1 < (l1.length : Int)
   ·rw [if_pos c5] at H
    have c5b0 : decide (x16_1 < (l1.length : Int)) = true := decide_eq_true c5
    clear c5
    by_cases c6 : 0 ≤ x16_1
    ·rw [if_pos c6] at H
     have c6b0 : decide (0 ≤ x16_1) = true := decide_eq_true c6
     clear c6
     by_cases c7 : x16_1 < (l1.length : Int)
     ·rw [if_pos c7] at H
      have c7b0 : decide (x16_1 < (l1.length : Int)) = true := decide_eq_true c7
      clear c7
      replace H := Option.bind_eq_some_iff.mp H
      obtain ⟨⟨t692, t695⟩, A80, H⟩ := H
      replace H : (if t695 = true then ((impl_copyRecord.f ((rd_T61 l1 x16_1).f0) ((rd_T61 l1 x16_1).f1) ((rd_T61 l1 x16_1).f2) ((rd_T61 l1 x16_1).f3) ((rd_T61 l1 x16_1).f4) ((rd_T61 l1 x16_1).f5) ((rd_T61 l1 x16_1).f6) ((rd_T61 l1 x16_1).f7)).bind fun bt696 => (if x7_1.length < 1759218604441 then (impl_learned.l0 k1 t692 (x7_1 ++ [(⟨bt696.1, bt696.2.1, bt696.2.2.1, bt696.2.2.2.1, bt696.2.2.2.2.1, bt696.2.2.2.2.2.1, bt696.2.2.2.2.2.2.1, bt696.2.2.2.2.2.2.2⟩ : S61)]) l1 (l1.length : Int) (wrap64 (x16_1 + 1))) else (none))) else (impl_learned.l0 k1 x6_1 x7_1 l1 (l1.length : Int) (wrap64 (x16_1 + 1)))) = some (r1, r2) := H
      have A8 := Aside0.mk A80
      clear A80
      have HC9 := Aside0.mk H
      clear H
      have p690 : 0 ≤ (x16_1 : Int) := of_decide_eq_true (by first | (with_reducible assumption) | assumption)
      have q690 : x16_1 < (l1.length : Int) := of_decide_eq_true (by first | (with_reducible assumption) | assumption)
      obtain ⟨ad690, A690_5, c690_5, e690, hx690_0, hx690_1, hx690_2, hx690_3, hx690_4, hx690_5, hx690_6, hx690_7, hl690_5, hi690_5⟩ := at_T61 HR1.out x16_1 p690 q690
      cases e690
      replace hx690_0 := (HB.out.cell (World.block_lt_of_cell? w _ hx690_0)).trans hx690_0
      replace hx690_1 := (HB.out.cell (World.block_lt_of_cell? w _ hx690_1)).trans hx690_1
      replace hx690_2 := (HB.out.cell (World.block_lt_of_cell? w _ hx690_2)).trans hx690_2
      replace hx690_3 := (HB.out.cell (World.block_lt_of_cell? w _ hx690_3)).trans hx690_3
      replace hx690_4 := (HB.out.cell (World.block_lt_of_cell? w _ hx690_4)).trans hx690_4
      replace hx690_5 := (HB.out.cell (World.block_lt_of_cell? w _ hx690_5)).trans hx690_5
      replace hx690_6 := (HB.out.cell (World.block_lt_of_cell? w _ hx690_6)).trans hx690_6
      replace hx690_7 := (HB.out.cell (World.block_lt_of_cell? w _ hx690_7)).trans hx690_7
      have HR690_5 := Aside0.mk hi690_5
      have HC690_5 := Aside0.mk hl690_5
      clear hi690_5 hl690_5
      replace p690 := eq_true p690
      replace q690 := eq_true q690
      go_upto_if 26 with (first | ((with_reducible refine gate_dst (N := 9) rfl ?_); refine box_event ?hg (N := 9) ?hd (cs := #[.int .i64 0, .int .i64 0, .int .i64 0, .int .i64 0, .int .i64 0, .slice none 0 0, .int .i64 0, .bool false]) (t := 61) ?hr ?_; (case hd => rfl); (case hg => rfl); (case hr => first | (go_simp; done) | (go_simp; rfl)); intro gb691 hg w10 hbox hb; have n0_ := Aside0.mk (Kd.S_below (Kd.S_elderB (kS_q HO_6) gb691 (Nat.le_of_eq hg.symm)) hb); have n1_ := Aside0.mk (Kd.S_below (Kd.S_elderB (kS_q HO_7) gb691 (Nat.le_of_eq hg.symm)) hb); have n2_ := Aside0.mk (below_step (bw_q HB) hb); have n3_ := Aside0.mk (hbox); have n4_ := Aside0.mk ((by rw [hg]; exact (below_size (bw_q HB)) : w.heap.size ≤ gb691)); have n5_ := Aside0.mk ((by rw [hg]; exact (below_size (bw_q HB)) : w.heap.size ≤ gb691)); clear HO_6; clear HO_7; clear HB; have HO_6 := n0_; have HO_7 := n1_; have HB := n2_; have BK691 := n3_; have GW691 := n4_; have GE691 := n5_; clear n0_ n1_ n2_ n3_ n4_ n5_; clear hb hbox hg; have hcz11_0 : w10.cell? ⟨gb691, 0, none⟩ = some (.int .i64 0) := (blk_cell BK691.out 0).trans rfl; have hcz11_1 : w10.cell? ⟨gb691, 1, none⟩ = some (.int .i64 0) := (blk_cell BK691.out 1).trans rfl; have hcz11_2 : w10.cell? ⟨gb691, 2, none⟩ = some (.int .i64 0) := (blk_cell BK691.out 2).trans rfl; have hcz11_3 : w10.cell? ⟨gb691, 3, none⟩ = some (.int .i64 0) := (blk_cell BK691.out 3).trans rfl; have hcz11_4 : w10.cell? ⟨gb691, 4, none⟩ = some (.int .i64 0) := (blk_cell BK691.out 4).trans rfl; have hcz11_5 : w10.cell? ⟨gb691, 5, none⟩ = some (.slice none 0 0) := (blk_cell BK691.out 5).trans rfl; have hcz11_6 : w10.cell? ⟨gb691, 6, none⟩ = some (.int .i64 0) := (blk_cell BK691.out 6).trans rfl; have hcz11_7 : w10.cell? ⟨gb691, 7, none⟩ = some (.bool false) := (blk_cell BK691.out 7).trans rfl; have hfz11_0 := blk_frozen BK691.out 0; have hfz11_1 := blk_frozen BK691.out 1; have hfz11_2 := blk_frozen BK691.out 2; have hfz11_3 := blk_frozen BK691.out 3; have hfz11_4 := blk_frozen BK691.out 4; have hfz11_5 := blk_frozen BK691.out 5; have hfz11_6 := blk_frozen BK691.out 6; have hfz11_7 := blk_frozen BK691.out 7; obtain ⟨Ao12, co12, eo12⟩ := Kd.S_slice HO_6.out; subst eo12) | ((with_reducible refine gate_callee (f := 42) rfl ?_); refine goesL_ (some 23) rfl rfl Try.func42 (by kernel_rfl) rfl #[.slice Ao12 x6_1.length co12, .agg #[.int .i64 ((rd_T61 l1 x16_1).f0), .int .i64 ((rd_T61 l1 x16_1).f1), .int .i64 ((rd_T61 l1 x16_1).f2), .int .i64 ((rd_T61 l1 x16_1).f3), .int .i64 ((rd_T61 l1 x16_1).f4), .slice A690_5 ((rd_T61 l1 x16_1).f5).length c690_5, .int .i64 ((rd_T61 l1 x16_1).f6), .bool ((rd_T61 l1 x16_1).f7)]] rfl mp_q ?_; (with_reducible refine (impl_Install.calls k1 _ _ x6_1 ((rd_T61 l1 x16_1).f0) ((rd_T61 l1 x16_1).f1) ((rd_T61 l1 x16_1).f2) ((rd_T61 l1 x16_1).f3) ((rd_T61 l1 x16_1).f4) _ _ ((rd_T61 l1 x16_1).f5) ((rd_T61 l1 x16_1).f6) ((rd_T61 l1 x16_1).f7) t692 t695 _ ?side1 ?side2 ?side3 ?side4 A8.out).mono ?_); (case side1 => refine (Kd.S_reads' (e := 61) (base := w.heap.size) (ok := fun k_ => (some k_ ≠ (u7 : Value).ownBlock ∧ k_ ≠ gb691)) (n := x6_1.length) (c := co12) ?_).2.2; exact (by (with_reducible repeat (first | apply Kd.S_alloc | apply Kd.S_drewN | apply Kd.S_drew)); exact (Kd.S_mono (Kd.S_far (p := ⟨gb691, 7, none⟩) (Kd.S_far (p := ⟨gb691, 6, none⟩) (Kd.S_far (p := ⟨gb691, 5, none⟩) (Kd.S_far (p := ⟨gb691, 4, none⟩) (Kd.S_far (p := ⟨gb691, 3, none⟩) (Kd.S_far (p := ⟨gb691, 2, none⟩) (Kd.S_far (p := ⟨gb691, 1, none⟩) (Kd.S_far (p := ⟨gb691, 0, none⟩) (Kd.S_mono HO_6.out (fun k_ hk => (⟨hk, hk.2⟩ : _ ∧ k_ ≠ gb691))) (fun _ hk => hk.2) (.int .i64 ((rd_T61 l1 x16_1).f0))) (fun _ hk => hk.2) (.int .i64 ((rd_T61 l1 x16_1).f1))) (fun _ hk => hk.2) (.int .i64 ((rd_T61 l1 x16_1).f2))) (fun _ hk => hk.2) (.int .i64 ((rd_T61 l1 x16_1).f3))) (fun _ hk => hk.2) (.int .i64 ((rd_T61 l1 x16_1).f4))) (fun _ hk => hk.2) (.slice A690_5 ((rd_T61 l1 x16_1).f5).length c690_5)) (fun _ hk => hk.2) (.int .i64 ((rd_T61 l1 x16_1).f6))) (fun _ hk => hk.2) (.bool ((rd_T61 l1 x16_1).f7))) (fun _ h_ => h_.1)))); (case side2 => exact (Kd.S_reads' HO_6.out).2.1); (case side3 => exact Kd.C_below HR690_5.out (bw_q HB)); (case side4 => exact HC690_5.out); rintro e w13 ⟨v693, rfl, ho0, hb⟩; refine ⟨_, rfl, ?_⟩; have n0_ := Aside0.mk (Kd.S_elder' (by (with_reducible repeat (first | apply Kd.S_alloc | apply Kd.S_drewN | apply Kd.S_drew)); exact (Kd.S_mono (Kd.S_far (p := ⟨gb691, 7, none⟩) (Kd.S_far (p := ⟨gb691, 6, none⟩) (Kd.S_far (p := ⟨gb691, 5, none⟩) (Kd.S_far (p := ⟨gb691, 4, none⟩) (Kd.S_far (p := ⟨gb691, 3, none⟩) (Kd.S_far (p := ⟨gb691, 2, none⟩) (Kd.S_far (p := ⟨gb691, 1, none⟩) (Kd.S_far (p := ⟨gb691, 0, none⟩) (Kd.S_mono HO_6.out (fun k_ hk => (⟨hk, hk.2⟩ : _ ∧ k_ ≠ gb691))) (fun _ hk => hk.2) (.int .i64 ((rd_T61 l1 x16_1).f0))) (fun _ hk => hk.2) (.int .i64 ((rd_T61 l1 x16_1).f1))) (fun _ hk => hk.2) (.int .i64 ((rd_T61 l1 x16_1).f2))) (fun _ hk => hk.2) (.int .i64 ((rd_T61 l1 x16_1).f3))) (fun _ hk => hk.2) (.int .i64 ((rd_T61 l1 x16_1).f4))) (fun _ hk => hk.2) (.slice A690_5 ((rd_T61 l1 x16_1).f5).length c690_5)) (fun _ hk => hk.2) (.int .i64 ((rd_T61 l1 x16_1).f6))) (fun _ hk => hk.2) (.bool ((rd_T61 l1 x16_1).f7))) (fun _ h_ => h_.1))) (Kd.S_base ho0) hb); have n1_ := Aside0.mk (Kd.S_elder' (by (with_reducible repeat (first | apply Kd.S_alloc | apply Kd.S_drewN | apply Kd.S_drew)); exact (Kd.S_mono (Kd.S_far (p := ⟨gb691, 7, none⟩) (Kd.S_far (p := ⟨gb691, 6, none⟩) (Kd.S_far (p := ⟨gb691, 5, none⟩) (Kd.S_far (p := ⟨gb691, 4, none⟩) (Kd.S_far (p := ⟨gb691, 3, none⟩) (Kd.S_far (p := ⟨gb691, 2, none⟩) (Kd.S_far (p := ⟨gb691, 1, none⟩) (Kd.S_far (p := ⟨gb691, 0, none⟩) (Kd.S_mono HO_7.out (fun k_ hk => (⟨hk, hk.2⟩ : _ ∧ k_ ≠ gb691))) (fun _ hk => hk.2) (.int .i64 ((rd_T61 l1 x16_1).f0))) (fun _ hk => hk.2) (.int .i64 ((rd_T61 l1 x16_1).f1))) (fun _ hk => hk.2) (.int .i64 ((rd_T61 l1 x16_1).f2))) (fun _ hk => hk.2) (.int .i64 ((rd_T61 l1 x16_1).f3))) (fun _ hk => hk.2) (.int .i64 ((rd_T61 l1 x16_1).f4))) (fun _ hk => hk.2) (.slice A690_5 ((rd_T61 l1 x16_1).f5).length c690_5)) (fun _ hk => hk.2) (.int .i64 ((rd_T61 l1 x16_1).f6))) (fun _ hk => hk.2) (.bool ((rd_T61 l1 x16_1).f7))) (fun _ h_ => h_.1))) (Kd.S_base ho0) hb); have n2_ := Aside0.mk (Kd.S_lower (Kd.S_newB (Kd.S_new' (Kd.S_new' ho0 (Kd.S_lt (by (with_reducible repeat (first | apply Kd.S_alloc | apply Kd.S_drewN | apply Kd.S_drew)); exact (Kd.S_mono (Kd.S_far (p := ⟨gb691, 7, none⟩) (Kd.S_far (p := ⟨gb691, 6, none⟩) (Kd.S_far (p := ⟨gb691, 5, none⟩) (Kd.S_far (p := ⟨gb691, 4, none⟩) (Kd.S_far (p := ⟨gb691, 3, none⟩) (Kd.S_far (p := ⟨gb691, 2, none⟩) (Kd.S_far (p := ⟨gb691, 1, none⟩) (Kd.S_far (p := ⟨gb691, 0, none⟩) (Kd.S_mono HO_6.out (fun k_ hk => (⟨hk, hk.2⟩ : _ ∧ k_ ≠ gb691))) (fun _ hk => hk.2) (.int .i64 ((rd_T61 l1 x16_1).f0))) (fun _ hk => hk.2) (.int .i64 ((rd_T61 l1 x16_1).f1))) (fun _ hk => hk.2) (.int .i64 ((rd_T61 l1 x16_1).f2))) (fun _ hk => hk.2) (.int .i64 ((rd_T61 l1 x16_1).f3))) (fun _ hk => hk.2) (.int .i64 ((rd_T61 l1 x16_1).f4))) (fun _ hk => hk.2) (.slice A690_5 ((rd_T61 l1 x16_1).f5).length c690_5)) (fun _ hk => hk.2) (.int .i64 ((rd_T61 l1 x16_1).f6))) (fun _ hk => hk.2) (.bool ((rd_T61 l1 x16_1).f7))) (fun _ h_ => h_.1))))) (Kd.S_lt (by (with_reducible repeat (first | apply Kd.S_alloc | apply Kd.S_drewN | apply Kd.S_drew)); exact (Kd.S_mono (Kd.S_far (p := ⟨gb691, 7, none⟩) (Kd.S_far (p := ⟨gb691, 6, none⟩) (Kd.S_far (p := ⟨gb691, 5, none⟩) (Kd.S_far (p := ⟨gb691, 4, none⟩) (Kd.S_far (p := ⟨gb691, 3, none⟩) (Kd.S_far (p := ⟨gb691, 2, none⟩) (Kd.S_far (p := ⟨gb691, 1, none⟩) (Kd.S_far (p := ⟨gb691, 0, none⟩) (Kd.S_mono HO_7.out (fun k_ hk => (⟨hk, hk.2⟩ : _ ∧ k_ ≠ gb691))) (fun _ hk => hk.2) (.int .i64 ((rd_T61 l1 x16_1).f0))) (fun _ hk => hk.2) (.int .i64 ((rd_T61 l1 x16_1).f1))) (fun _ hk => hk.2) (.int .i64 ((rd_T61 l1 x16_1).f2))) (fun _ hk => hk.2) (.int .i64 ((rd_T61 l1 x16_1).f3))) (fun _ hk => hk.2) (.int .i64 ((rd_T61 l1 x16_1).f4))) (fun _ hk => hk.2) (.slice A690_5 ((rd_T61 l1 x16_1).f5).length c690_5)) (fun _ hk => hk.2) (.int .i64 ((rd_T61 l1 x16_1).f6))) (fun _ hk => hk.2) (.bool ((rd_T61 l1 x16_1).f7))) (fun _ h_ => h_.1))))) (g := gb691) (o := .cells #[.int .i64 ((rd_T61 l1 x16_1).f0), .int .i64 ((rd_T61 l1 x16_1).f1), .int .i64 ((rd_T61 l1 x16_1).f2), .int .i64 ((rd_T61 l1 x16_1).f3), .int .i64 ((rd_T61 l1 x16_1).f4), .slice A690_5 ((rd_T61 l1 x16_1).f5).length c690_5, .int .i64 ((rd_T61 l1 x16_1).f6), .bool ((rd_T61 l1 x16_1).f7)] 61 (0, 0)) (by (with_reducible repeat (first | refine blk_drewN ?_ _ | refine blk_drew ?_ | refine blk_alloc ?_ _)); refine blk_put (cs := #[.int .i64 ((rd_T61 l1 x16_1).f0), .int .i64 ((rd_T61 l1 x16_1).f1), .int .i64 ((rd_T61 l1 x16_1).f2), .int .i64 ((rd_T61 l1 x16_1).f3), .int .i64 ((rd_T61 l1 x16_1).f4), .slice A690_5 ((rd_T61 l1 x16_1).f5).length c690_5, .int .i64 ((rd_T61 l1 x16_1).f6), .bool false]) ?_ 7 _ rfl; (with_reducible repeat (first | refine blk_drewN ?_ _ | refine blk_drew ?_ | refine blk_alloc ?_ _)); refine blk_put (cs := #[.int .i64 ((rd_T61 l1 x16_1).f0), .int .i64 ((rd_T61 l1 x16_1).f1), .int .i64 ((rd_T61 l1 x16_1).f2), .int .i64 ((rd_T61 l1 x16_1).f3), .int .i64 ((rd_T61 l1 x16_1).f4), .slice A690_5 ((rd_T61 l1 x16_1).f5).length c690_5, .int .i64 0, .bool false]) ?_ 6 _ rfl; (with_reducible repeat (first | refine blk_drewN ?_ _ | refine blk_drew ?_ | refine blk_alloc ?_ _)); refine blk_put (cs := #[.int .i64 ((rd_T61 l1 x16_1).f0), .int .i64 ((rd_T61 l1 x16_1).f1), .int .i64 ((rd_T61 l1 x16_1).f2), .int .i64 ((rd_T61 l1 x16_1).f3), .int .i64 ((rd_T61 l1 x16_1).f4), .slice none 0 0, .int .i64 0, .bool false]) ?_ 5 _ rfl; (with_reducible repeat (first | refine blk_drewN ?_ _ | refine blk_drew ?_ | refine blk_alloc ?_ _)); refine blk_put (cs := #[.int .i64 ((rd_T61 l1 x16_1).f0), .int .i64 ((rd_T61 l1 x16_1).f1), .int .i64 ((rd_T61 l1 x16_1).f2), .int .i64 ((rd_T61 l1 x16_1).f3), .int .i64 0, .slice none 0 0, .int .i64 0, .bool false]) ?_ 4 _ rfl; (with_reducible repeat (first | refine blk_drewN ?_ _ | refine blk_drew ?_ | refine blk_alloc ?_ _)); refine blk_put (cs := #[.int .i64 ((rd_T61 l1 x16_1).f0), .int .i64 ((rd_T61 l1 x16_1).f1), .int .i64 ((rd_T61 l1 x16_1).f2), .int .i64 0, .int .i64 0, .slice none 0 0, .int .i64 0, .bool false]) ?_ 3 _ rfl; (with_reducible repeat (first | refine blk_drewN ?_ _ | refine blk_drew ?_ | refine blk_alloc ?_ _)); refine blk_put (cs := #[.int .i64 ((rd_T61 l1 x16_1).f0), .int .i64 ((rd_T61 l1 x16_1).f1), .int .i64 0, .int .i64 0, .int .i64 0, .slice none 0 0, .int .i64 0, .bool false]) ?_ 2 _ rfl; (with_reducible repeat (first | refine blk_drewN ?_ _ | refine blk_drew ?_ | refine blk_alloc ?_ _)); refine blk_put (cs := #[.int .i64 ((rd_T61 l1 x16_1).f0), .int .i64 0, .int .i64 0, .int .i64 0, .int .i64 0, .slice none 0 0, .int .i64 0, .bool false]) ?_ 1 _ rfl; (with_reducible repeat (first | refine blk_drewN ?_ _ | refine blk_drew ?_ | refine blk_alloc ?_ _)); refine blk_put (cs := #[.int .i64 0, .int .i64 0, .int .i64 0, .int .i64 0, .int .i64 0, .slice none 0 0, .int .i64 0, .bool false]) ?_ 0 _ rfl; (with_reducible repeat (first | refine blk_drewN ?_ _ | refine blk_drew ?_ | refine blk_alloc ?_ _)); exact BK691.out)) (below_size (bw_q HB))); have n3_ := Aside0.mk (blk_below (g := gb691) (o := .cells #[.int .i64 ((rd_T61 l1 x16_1).f0), .int .i64 ((rd_T61 l1 x16_1).f1), .int .i64 ((rd_T61 l1 x16_1).f2), .int .i64 ((rd_T61 l1 x16_1).f3), .int .i64 ((rd_T61 l1 x16_1).f4), .slice A690_5 ((rd_T61 l1 x16_1).f5).length c690_5, .int .i64 ((rd_T61 l1 x16_1).f6), .bool ((rd_T61 l1 x16_1).f7)] 61 (0, 0)) (by (with_reducible repeat (first | refine blk_drewN ?_ _ | refine blk_drew ?_ | refine blk_alloc ?_ _)); refine blk_put (cs := #[.int .i64 ((rd_T61 l1 x16_1).f0), .int .i64 ((rd_T61 l1 x16_1).f1), .int .i64 ((rd_T61 l1 x16_1).f2), .int .i64 ((rd_T61 l1 x16_1).f3), .int .i64 ((rd_T61 l1 x16_1).f4), .slice A690_5 ((rd_T61 l1 x16_1).f5).length c690_5, .int .i64 ((rd_T61 l1 x16_1).f6), .bool false]) ?_ 7 _ rfl; (with_reducible repeat (first | refine blk_drewN ?_ _ | refine blk_drew ?_ | refine blk_alloc ?_ _)); refine blk_put (cs := #[.int .i64 ((rd_T61 l1 x16_1).f0), .int .i64 ((rd_T61 l1 x16_1).f1), .int .i64 ((rd_T61 l1 x16_1).f2), .int .i64 ((rd_T61 l1 x16_1).f3), .int .i64 ((rd_T61 l1 x16_1).f4), .slice A690_5 ((rd_T61 l1 x16_1).f5).length c690_5, .int .i64 0, .bool false]) ?_ 6 _ rfl; (with_reducible repeat (first | refine blk_drewN ?_ _ | refine blk_drew ?_ | refine blk_alloc ?_ _)); refine blk_put (cs := #[.int .i64 ((rd_T61 l1 x16_1).f0), .int .i64 ((rd_T61 l1 x16_1).f1), .int .i64 ((rd_T61 l1 x16_1).f2), .int .i64 ((rd_T61 l1 x16_1).f3), .int .i64 ((rd_T61 l1 x16_1).f4), .slice none 0 0, .int .i64 0, .bool false]) ?_ 5 _ rfl; (with_reducible repeat (first | refine blk_drewN ?_ _ | refine blk_drew ?_ | refine blk_alloc ?_ _)); refine blk_put (cs := #[.int .i64 ((rd_T61 l1 x16_1).f0), .int .i64 ((rd_T61 l1 x16_1).f1), .int .i64 ((rd_T61 l1 x16_1).f2), .int .i64 ((rd_T61 l1 x16_1).f3), .int .i64 0, .slice none 0 0, .int .i64 0, .bool false]) ?_ 4 _ rfl; (with_reducible repeat (first | refine blk_drewN ?_ _ | refine blk_drew ?_ | refine blk_alloc ?_ _)); refine blk_put (cs := #[.int .i64 ((rd_T61 l1 x16_1).f0), .int .i64 ((rd_T61 l1 x16_1).f1), .int .i64 ((rd_T61 l1 x16_1).f2), .int .i64 0, .int .i64 0, .slice none 0 0, .int .i64 0, .bool false]) ?_ 3 _ rfl; (with_reducible repeat (first | refine blk_drewN ?_ _ | refine blk_drew ?_ | refine blk_alloc ?_ _)); refine blk_put (cs := #[.int .i64 ((rd_T61 l1 x16_1).f0), .int .i64 ((rd_T61 l1 x16_1).f1), .int .i64 0, .int .i64 0, .int .i64 0, .slice none 0 0, .int .i64 0, .bool false]) ?_ 2 _ rfl; (with_reducible repeat (first | refine blk_drewN ?_ _ | refine blk_drew ?_ | refine blk_alloc ?_ _)); refine blk_put (cs := #[.int .i64 ((rd_T61 l1 x16_1).f0), .int .i64 0, .int .i64 0, .int .i64 0, .int .i64 0, .slice none 0 0, .int .i64 0, .bool false]) ?_ 1 _ rfl; (with_reducible repeat (first | refine blk_drewN ?_ _ | refine blk_drew ?_ | refine blk_alloc ?_ _)); refine blk_put (cs := #[.int .i64 0, .int .i64 0, .int .i64 0, .int .i64 0, .int .i64 0, .slice none 0 0, .int .i64 0, .bool false]) ?_ 0 _ rfl; (with_reducible repeat (first | refine blk_drewN ?_ _ | refine blk_drew ?_ | refine blk_alloc ?_ _)); exact BK691.out) hb); have n4_ := Aside0.mk (below_step (bw_q HB) hb); clear HO_6; clear HO_7; clear BK691; clear HB; have HO_6 := n0_; have HO_7 := n1_; have HO694 := n2_; have BK691 := n3_; have HB := n4_; clear n0_ n1_ n2_ n3_ n4_; (try clear hb); (try clear hb2); (try clear hk); (try clear hi); (try clear ho0)))
      (try clear hx690_0); (try clear hx690_1); (try clear hx690_2); (try clear hx690_3); (try clear hx690_4); (try clear hx690_5); (try clear hx690_6); (try clear hx690_7)
      have H := HC9.out
      clear HC9
      by_cases c14 : t695 = true
      ·subst c14
       have H1 : ((impl_copyRecord.f ((rd_T61 l1 x16_1).f0) ((rd_T61 l1 x16_1).f1) ((rd_T61 l1 x16_1).f2) ((rd_T61 l1 x16_1).f3) ((rd_T61 l1 x16_1).f4) ((rd_T61 l1 x16_1).f5) ((rd_T61 l1 x16_1).f6) ((rd_T61 l1 x16_1).f7)).bind fun bt696 => (if x7_1.length < 1759218604441 then (impl_learned.l0 k1 t692 (x7_1 ++ [(⟨bt696.1, bt696.2.1, bt696.2.2.1, bt696.2.2.2.1, bt696.2.2.2.2.1, bt696.2.2.2.2.2.1, bt696.2.2.2.2.2.2.1, bt696.2.2.2.2.2.2.2⟩ : S61)]) l1 (l1.length : Int) (wrap64 (x16_1 + 1))) else (none))) = some (r1, r2) := by rw [if_pos rfl] at H; exact H
       clear H
       have H := H1
       clear H1
       replace H := Option.bind_eq_some_iff.mp H
       obtain ⟨⟨t696, t697, t698, t699, t700, t701, t704, t705⟩, A150, H⟩ := H
       replace H : (if x7_1.length < 1759218604441 then (impl_learned.l0 k1 t692 (x7_1 ++ [(⟨t696, t697, t698, t699, t700, t701, t704, t705⟩ : S61)]) l1 (l1.length : Int) (wrap64 (x16_1 + 1))) else (none)) = some (r1, r2) := H
       have A15 := Aside0.mk A150
       clear A150
       by_cases c16 : x7_1.length < 1759218604441
       ·rw [if_pos c16] at H
        have LMc16 := Aside0.mk c16
        clear c16
        obtain ⟨y706, hy706⟩ : ∃ y_ : List (S61), y_ = (x7_1 ++ [(⟨t696, t697, t698, t699, t700, t701, t704, t705⟩ : S61)]) := ⟨_, rfl⟩
        replace H : (impl_learned.l0 k1 t692 y706 l1 (l1.length : Int) (wrap64 (x16_1 + 1))) = some (r1, r2) := by first | (rw [hy706]; with_reducible exact H) | (have H2_ := (Option.bind_some _ _).symm.trans H; rw [hy706]; with_reducible exact H2_) | (have H2_ := (Option.bind_some _ _).symm.trans H; with_reducible exact H2_) | with_reducible exact H | (rw [hy706]; exact H) | exact H
        have Ny706 := Aside0.mk hy706
        clear hy706
        have H' := Aside0.mk H
        clear H
        have hcz17_0 : w13.cell? ⟨gb691, 0, none⟩ = some (.int .i64 ((rd_T61 l1 x16_1).f0)) := (blk_cell BK691.out 0).trans rfl
        have hcz17_1 : w13.cell? ⟨gb691, 1, none⟩ = some (.int .i64 ((rd_T61 l1 x16_1).f1)) := (blk_cell BK691.out 1).trans rfl
        have hcz17_2 : w13.cell? ⟨gb691, 2, none⟩ = some (.int .i64 ((rd_T61 l1 x16_1).f2)) := (blk_cell BK691.out 2).trans rfl
        have hcz17_3 : w13.cell? ⟨gb691, 3, none⟩ = some (.int .i64 ((rd_T61 l1 x16_1).f3)) := (blk_cell BK691.out 3).trans rfl
        have hcz17_4 : w13.cell? ⟨gb691, 4, none⟩ = some (.int .i64 ((rd_T61 l1 x16_1).f4)) := (blk_cell BK691.out 4).trans rfl
        have hcz17_5 : w13.cell? ⟨gb691, 5, none⟩ = some (.slice A690_5 ((rd_T61 l1 x16_1).f5).length c690_5) := (blk_cell BK691.out 5).trans rfl
        have hcz17_6 : w13.cell? ⟨gb691, 6, none⟩ = some (.int .i64 ((rd_T61 l1 x16_1).f6)) := (blk_cell BK691.out 6).trans rfl
        have hcz17_7 : w13.cell? ⟨gb691, 7, none⟩ = some (.bool ((rd_T61 l1 x16_1).f7)) := (blk_cell BK691.out 7).trans rfl
        have hfz17_0 := blk_frozen BK691.out 0
        have hfz17_1 := blk_frozen BK691.out 1
        have hfz17_2 := blk_frozen BK691.out 2
        have hfz17_3 := blk_frozen BK691.out 3
        have hfz17_4 := blk_frozen BK691.out 4
        have hfz17_5 := blk_frozen BK691.out 5
        have hfz17_6 := blk_frozen BK691.out 6
        have hfz17_7 := blk_frozen BK691.out 7
        go_wp2_with (first | ((with_reducible refine gate_callee (f := 108) rfl ?_); refine goesL_ (some 30) rfl rfl Try.func108 (by kernel_rfl) rfl #[.agg #[.int .i64 ((rd_T61 l1 x16_1).f0), .int .i64 ((rd_T61 l1 x16_1).f1), .int .i64 ((rd_T61 l1 x16_1).f2), .int .i64 ((rd_T61 l1 x16_1).f3), .int .i64 ((rd_T61 l1 x16_1).f4), .slice A690_5 ((rd_T61 l1 x16_1).f5).length c690_5, .int .i64 ((rd_T61 l1 x16_1).f6), .bool ((rd_T61 l1 x16_1).f7)]] rfl mp_q ?_; (with_reducible refine (impl_copyRecord.calls ((rd_T61 l1 x16_1).f0) ((rd_T61 l1 x16_1).f1) ((rd_T61 l1 x16_1).f2) ((rd_T61 l1 x16_1).f3) ((rd_T61 l1 x16_1).f4) _ _ ((rd_T61 l1 x16_1).f5) ((rd_T61 l1 x16_1).f6) ((rd_T61 l1 x16_1).f7) t696 t697 t698 t699 t700 t701 t704 t705 _ ?side1 ?side2 A15.out).mono ?_); (case side1 => exact cs_q (Kd.C_below HR690_5.out HB.out)); (case side2 => exact HC690_5.out); rintro e w18 ⟨v702, rfl, ho0, hb⟩; refine ⟨_, rfl, ?_⟩; have hs_v702 : (v702 : Value).oneCell' = true := (by first | (obtain ⟨A_, c_, e_⟩ := Kd.R_slice ho0; simp [e_, Value.oneCell']) | (obtain ⟨A_, c_, e_⟩ := Kd.S_slice ho0; simp [e_, Value.oneCell']) | (obtain ⟨A_, c_, e_⟩ := Kd.N_slice ho0; simp [e_, Value.oneCell']) | (obtain ⟨A_, c_, e_⟩ := Kd.V_slice ho0; simp [e_, Value.oneCell'])); have hst_v702 := fun (w_ : World) (a_ : Addr) m_ => run_store Try.prog w_ a_ v702 m_ hs_v702; have n0_ := Aside0.mk (Kd.S_elder' (kS_q HO_6) (Kd.R_base ho0) hb); have n1_ := Aside0.mk (Kd.S_elder' (kS_q HO_7) (Kd.R_base ho0) hb); have n2_ := Aside0.mk (Kd.S_elder' (kS_q HO694) (Kd.R_base ho0) hb); have n3_ := Aside0.mk (Kd.R_lower ho0 (below_size (bw_q HB))); have n4_ := Aside0.mk (blk_below (g := gb691) (bk_q BK691) hb); have n5_ := Aside0.mk (below_step (bw_q HB) hb); clear HO_6; clear HO_7; clear HO694; clear BK691; clear HB; have HO_6 := n0_; have HO_7 := n1_; have HO694 := n2_; have HO703 := n3_; have BK691 := n4_; have HB := n5_; clear n0_ n1_ n2_ n3_ n4_ n5_; (try clear hb); (try clear hb2); (try clear hk); (try clear hi); (try clear ho0); obtain ⟨Ao20, co20, eo20⟩ := Kd.R_slice HO703.out; subst eo20) | ((with_reducible refine gate_builtin (b := .append) (xs := #[.tmp 28, .tmp 31]) rfl ?_); at_builtin; refine Kd.S_append k61 (w0 := w) w.heap.size rfl (.tmp 28) (.tmp 31) 41 61 (.agg #[(.int .i64 0), (.int .i64 0), (.int .i64 0), (.int .i64 0), (.int .i64 0), (.slice none 0 0), (.int .i64 0), (.bool false)]) 80 rfl Try.underlying41 info61 rfl (by decide) (by omega) u7 x7_1 (⟨t696, t697, t698, t699, t700, t701, t704, t705⟩ : S61) [.int .i64 t696, .int .i64 t697, .int .i64 t698, .int .i64 t699, .int .i64 t700, .slice Ao20 t701.length co20, .int .i64 t704, .bool t705] (fun k_ => some k_ ≠ (.slice Ao12 x6_1.length co12 : Value).ownBlock ∧ some k_ ≠ (v693 : Value).ownBlock ∧ k_ ≠ gb691) (fun k_ => some k_ = (.slice Ao20 t701.length co20 : Value).ownBlock) rfl rfl ?aP (fun k_ hk_ => ((Kd.R_mono (ok' := fun k_ => ((fun k_ => some k_ ≠ (.slice Ao12 x6_1.length co12 : Value).ownBlock ∧ some k_ ≠ (v693 : Value).ownBlock ∧ k_ ≠ gb691)) k_ ∧ some k_ ≠ (u7 : Value).ownBlock) (Kd.R_types (Kd.R_apart' (Kd.R_apart' (Kd.R_apart' (HO703.out) (Kd.S_typed HO_6.out) (by decide)) (Kd.S_typed HO694.out) (by decide)) (Kd.S_typed HO_7.out) (by decide)) BK691.out (by decide)) (fun k_ hk => ⟨⟨hk.1.1.1.2, ⟨hk.1.1.2, hk.2⟩⟩, hk.1.2⟩))).1 k_ hk_.symm) ?aF ?aO ?aB ?aS ?aL ?_; (case aP => exact k61_mkM _ _ _ (⟨t696, t697, t698, t699, t700, t701, t704, t705⟩ : S61) (Kd.R_mono (Kd.R_tight rfl (Kd.R_mono (ok' := fun k_ => ((fun k_ => some k_ ≠ (.slice Ao12 x6_1.length co12 : Value).ownBlock ∧ some k_ ≠ (v693 : Value).ownBlock ∧ k_ ≠ gb691)) k_ ∧ some k_ ≠ (u7 : Value).ownBlock) (Kd.R_types (Kd.R_apart' (Kd.R_apart' (Kd.R_apart' (HO703.out) (Kd.S_typed HO_6.out) (by decide)) (Kd.S_typed HO694.out) (by decide)) (Kd.S_typed HO_7.out) (by decide)) BK691.out (by decide)) (fun k_ hk => ⟨⟨hk.1.1.1.2, ⟨hk.1.1.2, hk.2⟩⟩, hk.1.2⟩))) (fun _ h_ => h_))); (case aB => exact (bw_q HB)); (case aF => exact (fun k_ hk => ⟨Kd.fresh' (Kd.S_lt (kS_q HO_6)) k_ hk, Kd.fresh' (Kd.S_lt (kS_q HO694)) k_ hk, Kd.freshB (g := gb691) (o := .cells #[.int .i64 ((rd_T61 l1 x16_1).f0), .int .i64 ((rd_T61 l1 x16_1).f1), .int .i64 ((rd_T61 l1 x16_1).f2), .int .i64 ((rd_T61 l1 x16_1).f3), .int .i64 ((rd_T61 l1 x16_1).f4), .slice A690_5 ((rd_T61 l1 x16_1).f5).length c690_5, .int .i64 ((rd_T61 l1 x16_1).f6), .bool ((rd_T61 l1 x16_1).f7)] 61 (0, 0)) (bk_q BK691) k_ hk⟩)); (case aO => exact (by (with_reducible repeat (first | apply Kd.S_alloc | apply Kd.S_drewN | apply Kd.S_drew)); exact Kd.S_mono HO_7.out (fun k_ hk => ⟨⟨hk.1.1.1, ⟨hk.1.2, hk.1.1.2⟩⟩, fun e_ => hk.2 e_⟩))); (case aS => exact (below_size (bw_q HB))); (case aL => have := LMc16.out; omega); intro v707 w19 ho hb hg hat; rw [← Ny706.out] at ho; have n0_ := Aside0.mk (Kd.S_after (ok := (fun k_ => some k_ ≠ (v693 : Value).ownBlock ∧ some k_ ≠ (.slice Ao20 t701.length co20 : Value).ownBlock ∧ k_ ≠ gb691)) (by (with_reducible repeat (first | apply Kd.S_alloc | apply Kd.S_drewN | apply Kd.S_drew)); exact Kd.S_mono HO_6.out (fun _ hk => ⟨⟨hk.1.2, ⟨hk.2, hk.1.1.2⟩⟩, hk.1.1.1⟩)) hg hat); have n1_ := Aside0.mk (blk_grown (g := gb691) (o := .cells #[.int .i64 ((rd_T61 l1 x16_1).f0), .int .i64 ((rd_T61 l1 x16_1).f1), .int .i64 ((rd_T61 l1 x16_1).f2), .int .i64 ((rd_T61 l1 x16_1).f3), .int .i64 ((rd_T61 l1 x16_1).f4), .slice A690_5 ((rd_T61 l1 x16_1).f5).length c690_5, .int .i64 ((rd_T61 l1 x16_1).f6), .bool ((rd_T61 l1 x16_1).f7)] 61 (0, 0)) (bk_q BK691) hg (Kd.S_away HO_7.out (fun _ hk => hk.1.1.2))); have n2_ := Aside0.mk (Kd.S_after (ok := (fun k_ => some k_ ≠ (.slice Ao12 x6_1.length co12 : Value).ownBlock ∧ some k_ ≠ (.slice Ao20 t701.length co20 : Value).ownBlock ∧ k_ ≠ gb691)) (by (with_reducible repeat (first | apply Kd.S_alloc | apply Kd.S_drewN | apply Kd.S_drew)); exact Kd.S_mono HO694.out (fun _ hk => ⟨⟨hk.1.1.1.2, ⟨hk.2, hk.1.2⟩⟩, hk.1.1.2⟩)) hg hat); have n3_ := Aside0.mk (hb); have n4_ := Aside0.mk (ho); clear HO_6; clear BK691; clear HO694; clear HB; clear HO_7; clear HO703; have HO_6 := n0_; have BK691 := n1_; have HO694 := n2_; have HB := n3_; have HO708 := n4_; clear n0_ n1_ n2_ n3_ n4_; clear ho hb hg hat))
        go_roundg k1
        case measure => have := HK1.out; omega
        case rel => exact ⟨(t692), (y706), (wrap64 (x16_1 + 1)), (by first | rfl | (simp; done) | (simp [*]; done)), H', ⟨by have := HK1.out; omega⟩, ⟨by (with_reducible repeat (first | apply Kd.S_alloc | apply Kd.S_drewN | apply Kd.S_drew)); exact Kd.S_mono HO694.out (fun _ hk => hk.2)⟩, ⟨by (with_reducible repeat (first | apply Kd.S_alloc | apply Kd.S_drewN | apply Kd.S_drew)); exact Kd.S_mono HO708.out (fun _ hk => hk.2.1)⟩, ⟨bw_q HB⟩⟩
       ·rw [if_neg c16] at H
        exact absurd H (by simp)
      ·replace c14 := Bool.eq_false_iff.mpr c14
       subst c14
       have H1 : (impl_learned.l0 k1 x6_1 x7_1 l1 (l1.length : Int) (wrap64 (x16_1 + 1))) = some (r1, r2) := by rw [if_neg (show ¬ (false = true) by decide)] at H; exact H
       clear H
       have H := H1
       clear H1
       have H' := Aside0.mk H
       clear H
       go_wp2
       go_roundg k1
       case measure => have := HK1.out; omega
       case rel => exact ⟨(x6_1), (x7_1), (wrap64 (x16_1 + 1)), (by first | rfl | (simp; done) | (simp [*]; done)), H', ⟨by have := HK1.out; omega⟩, ⟨by (with_reducible repeat (first | apply Kd.S_alloc | apply Kd.S_drewN | apply Kd.S_drew)); exact Kd.S_mono HO_6.out (fun _ hk => hk.1.1)⟩, ⟨by (with_reducible repeat (first | apply Kd.S_alloc | apply Kd.S_drewN | apply Kd.S_drew)); exact Kd.S_mono HO_7.out (fun _ hk => hk.1.1)⟩, ⟨bw_q HB⟩⟩
     ·rw [if_neg c7] at H
      exact absurd H (by simp)
    ·rw [if_neg c6] at H
     exact absurd H (by simp)
   ·rw [if_neg c5] at H
    have c5b0 : decide (x16_1 < (l1.length : Int)) = false := decide_eq_false c5
    clear c5
    simp only [Option.some.injEq, Prod.mk.injEq] at H
    obtain ⟨rfl, rfl⟩ := H
    go_wp2
    go_ret2
    exact ⟨_, _, er_q, by (with_reducible repeat (first | apply Kd.S_alloc | apply Kd.S_drewN | apply Kd.S_drew)); exact HO_6.out, by (with_reducible repeat (first | apply Kd.S_alloc | apply Kd.S_drewN | apply Kd.S_drew)); exact HO_7.out, bw_q HB⟩

end Go.Proofs.Ythjmdiggglkeaaa.Q
