import Derived.Test.YthjmdiggglkeaaaXFnMergesQimplnearOk
import Derived.Test.YthjmdiggglkeaaaXFnMergesQimplcopyRecords
import Derived.Test.YthjmdiggglkeaaaXFnMergesQimplInstall
/- A Go function as a Lean function, and its contract: for every input the Go code comes to what the Lean function tells. -/




namespace Go.Proofs.Ythjmdiggglkeaaa.Q
open Go.RowKit Go.Proofs.YthjmdiggglkeaaaW.PrintWords Go.Proofs.YthjmdiggglkeaaaW.PrintLast Go.Proofs.YthjmdiggglkeaaaW.PrintMore
attribute [local go_sem] max2_int min2_int max_two min_two max_three min_three max_four min_four   -- for this text's walks alone
set_option linter.unusedVariables false
set_option linter.unusedSimpArgs false

/-! ### impl_learned: function 97 -/
def impl_learned.l0 : Nat → List (S61) → List (S61) → List (S61) → Int → Int → Option ((List (S61)) × (List (S61)))
 | 0, _, _, _, _, _ => none
 | k + 1, x6, x7, x14, x15, x16 => if x16 < x15 then (if 0 ≤ x16 then (if x16 < (x14.length : Int) then ((impl_Install.f k x6 ((rd_T61 x14 x16).f0) ((rd_T61 x14 x16).f1) ((rd_T61 x14 x16).f2) ((rd_T61 x14 x16).f3) ((rd_T61 x14 x16).f4) ((rd_T61 x14 x16).f5) ((rd_T61 x14 x16).f6) ((rd_T61 x14 x16).f7)).bind fun bt692 => (if bt692.2 = true then ((impl_copyRecord.f ((rd_T61 x14 x16).f0) ((rd_T61 x14 x16).f1) ((rd_T61 x14 x16).f2) ((rd_T61 x14 x16).f3) ((rd_T61 x14 x16).f4) ((rd_T61 x14 x16).f5) ((rd_T61 x14 x16).f6) ((rd_T61 x14 x16).f7)).bind fun bt696 => (if x7.length < 1759218604441 then (impl_learned.l0 k bt692.1 (x7 ++ [(⟨bt696.1, bt696.2.1, bt696.2.2.1, bt696.2.2.2.1, bt696.2.2.2.2.1, bt696.2.2.2.2.2.1, bt696.2.2.2.2.2.2.1, bt696.2.2.2.2.2.2.2⟩ : S61)]) x14 x15 (wrap64 (x16 + 1))) else (none))) else (impl_learned.l0 k x6 x7 x14 x15 (wrap64 (x16 + 1))))) else (none)) else (none)) else (some (x6, x7))
def impl_learned.f (k : Nat) (l0 : List (S61)) (l1 : List (S61)) : Option ((List (S61)) × (List (S61))) := (impl_copyRecords.f k l0).bind fun t687 => (impl_learned.l0 k t687 ([] : List (S61)) l1 (l1.length : Int) 0)
theorem impl_learned.mono_l : ∀ k, (∀ y0 y1 y2 y3 y4, LeO (impl_learned.l0 k y0 y1 y2 y3 y4) (impl_learned.l0 (k + 1) y0 y1 y2 y3 y4))
 | 0 => fun _ _ _ _ _ r h => by simp [impl_learned.l0] at h
 | k + 1 => by
  have ih0 := impl_learned.mono_l k
  ·intro y0 y1 y2 y3 y4
   unfold impl_learned.l0
   repeat' first
   | (with_reducible exact ih0 _ _ _ _ _)
   | (with_reducible exact impl_Install.mono _ _ _ _ _ _ _ _ _ _)
   | (with_reducible exact impl_copyRecords.mono _ _)
   | (with_reducible exact LeO.refl _)
   | (with_reducible exact LeO.none _)
   | (with_reducible refine LeO.ite ?_ ?_)
   | (with_reducible refine LeO.bind ?_ (fun _ => ?_))
   | exact ih0 _ _ _ _ _
   | exact impl_Install.mono _ _ _ _ _ _ _ _ _ _
   | exact impl_copyRecords.mono _ _
   | exact LeO.none _
   | refine LeO.ite ?_ ?_
   | refine LeO.bind ?_ (fun _ => ?_)
theorem impl_learned.mono : ∀ a0 a1 k, LeO (impl_learned.f k a0 a1) (impl_learned.f (k + 1) a0 a1) := by
 intro a0 a1 k
 have ih0 := impl_learned.mono_l k
 unfold impl_learned.f
 repeat' first
   | (with_reducible exact ih0 _ _ _ _ _)
   | (with_reducible exact impl_Install.mono _ _ _ _ _ _ _ _ _ _)
   | (with_reducible exact impl_copyRecords.mono _ _)
   | (with_reducible exact LeO.refl _)
   | (with_reducible exact LeO.none _)
   | (with_reducible refine LeO.ite ?_ ?_)
   | (with_reducible refine LeO.bind ?_ (fun _ => ?_))
   | exact ih0 _ _ _ _ _
   | exact impl_Install.mono _ _ _ _ _ _ _ _ _ _
   | exact impl_copyRecords.mono _ _
   | exact LeO.none _
   | refine LeO.ite ?_ ?_
   | refine LeO.bind ?_ (fun _ => ?_)
set_option maxHeartbeats 8000000 in
set_option maxRecDepth 100000 in
theorem impl_learned.calls (k : Nat) (A0 : Option Addr) (c0 : Nat) (l0 : List (S61)) (A1 : Option Addr) (c1 : Nat) (l1 : List (S61)) (r1 : List (S61)) (r2 : List (S61)) (w : World) (hr0 : Kd.C k61 w A0 l0.length l0) (hc0 : l0.length ≤ c0) (hr1 : Kd.C k61 w A1 l1.length l1) (hc1 : l1.length ≤ c1) (h : impl_learned.f k l0 l1 = some (r1, r2)) :
  Calls Try.prog 97 #[.slice A0 l0.length c0, .slice A1 l1.length c1] w fun e w' => ∃ v0_ v1_ : Value, e = .returned (.tuple #[v0_, v1_]) ∧ Kd.S k61 61 w' w.heap.size (fun k_ => some k_ ≠ (v1_ : Value).ownBlock) v0_ r1 ∧ Kd.S k61 61 w' w.heap.size (fun k_ => some k_ ≠ (v0_ : Value).ownBlock) v1_ r2 ∧ Below w.heap.size w w' := by
 have hu61 := Try.underlying61
 have HR0 := Aside0.mk hr0
 have HC0 := Aside0.mk hc0
 clear hr0 hc0
 have HR1 := Aside0.mk hr1
 have HC1 := Aside0.mk hc1
 clear hr1 hc1
 have HB := Aside0.mk (Below.refl w.heap.size w)
 have H : ((impl_copyRecords.f k l0).bind fun t687 => (impl_learned.l0 k t687 ([] : List (S61)) l1 (l1.length : Int) 0)) = some (r1, r2) := h
 clear h
 replace H := Option.bind_eq_some_iff.mp H
 obtain ⟨t687, A30, H⟩ := H
 replace H : (impl_learned.l0 k t687 ([] : List (S61)) l1 (l1.length : Int) 0) = some (r1, r2) := H
 have A3 := Aside0.mk A30
 clear A30
 have H' := Aside0.mk H
 clear H
 go_enter Try.func97, Try.ntmps97
 go_wp2_with (first | ((with_reducible refine gate_callee (f := 135) rfl ?_); refine goesL_ (some 13) rfl rfl Try.func135 (by kernel_rfl) rfl #[.slice A0 l0.length c0] rfl mp_q ?_; (with_reducible refine (impl_copyRecords.calls k _ _ l0 t687 _ ?side1 ?side2 A3.out).mono ?_); (case side1 => repeat (first | exact HR0.out | (with_reducible refine Kd.C_alloc ?_ _) | (with_reducible refine Kd.C_drewN ?_ _) | (with_reducible refine Kd.C_drew ?_))); (case side2 => exact HC0.out); rintro e w4 ⟨v688, rfl, ho0, hb⟩; refine ⟨_, rfl, ?_⟩; have HO689 := Aside0.mk (Kd.S_lower ho0 (below_size (bw_q HB))); replace HB := Aside0.mk (below_step (bw_q HB) hb); (try clear hb); (try clear hb2); (try clear hk); (try clear hi); (try clear ho0)))
 go_loopg [6, 7, 16] k (fun kq v6 v7 v16 w' => ∃ (x6_1 : List (S61)) (x7_1 : List (S61)) (x16_1 : Int), v16 = .int .i64 x16_1 ∧ Aside0 (impl_learned.l0 kq x6_1 x7_1 l1 (l1.length : Int) x16_1 = some (r1, r2)) ∧ Aside0 (kq ≤ k) ∧ Aside0 (Kd.S k61 61 w' w.heap.size (fun k_ => some k_ ≠ (v7 : Value).ownBlock) v6 x6_1) ∧ Aside0 (Kd.S k61 61 w' w.heap.size (fun k_ => some k_ ≠ (v6 : Value).ownBlock) v7 x7_1) ∧ Aside0 (Below w.heap.size w w'))
 case atStart => exact ⟨(t687), (([] : List (S61))), (0), (by first | rfl | (simp; done) | (simp [*]; done)), H', ⟨Nat.le_refl _⟩, ⟨by (with_reducible repeat (first | apply Kd.S_alloc | apply Kd.S_drewN | apply Kd.S_drew)); exact Kd.S_mono HO689.out (fun _ hk => (by simp [Value.ownBlock]))⟩, ⟨by first | exact Kd.S_nil _ _ _ _ _ | exact Kd.N_nil _ _ _ _ _ | exact Kd.V_nil _ _ _ _ _ | exact Kd.Q_nil _ _ _ _ _ | exact Kd.R_nil _ _ _ _ _⟩, ⟨bw_q HB⟩⟩
 case round =>
  clear H'
  try clear c1
  try clear p2
  obtain ⟨x6_1, x7_1, x16_1, rfl, HA, HK1, HO_6, HO_7, HB⟩ := hrel
  cases gk with
  | zero => exact absurd HA.out (by simp [impl_learned.l0])
  | succ k1 =>
   have H := HA.out
   clear HA
   simp only [impl_learned.l0] at H
   by_cases c5 : x16_1 < (l1.length : Int)
   ·rw [if_pos c5] at H
    have c5b0 : decide (x16_1 < (l1.length : Int)) = true := decide_eq_true c5
    clear c5
    by_cases c6 : 0 ≤ x16_1
    ·rw [if_pos c6] at H
     have c6b0 : decide (0 ≤ x16_1) = true := decide_eq_true c6
     clear c6
     by_cases c7 : x16_1 < (l1.length : Int)
     ·rw [if_pos c7] at H
      have c7b0 : decide (x16_1 < (l1.length : Int)) = true := decide_eq_true c7
      clear c7
      replace H := Option.bind_eq_some_iff.mp H
      obtain ⟨⟨t692, t695⟩, A80, H⟩ := H
      replace H : (if t695 = true then ((impl_copyRecord.f ((rd_T61 l1 x16_1).f0) ((rd_T61 l1 x16_1).f1) ((rd_T61 l1 x16_1).f2) ((rd_T61 l1 x16_1).f3) ((rd_T61 l1 x16_1).f4) ((rd_T61 l1 x16_1).f5) ((rd_T61 l1 x16_1).f6) ((rd_T61 l1 x16_1).f7)).bind fun bt696 => (if x7_1.length < 1759218604441 then (impl_learned.l0 k1 t692 (x7_1 ++ [(⟨bt696.1, bt696.2.1, bt696.2.2.1, bt696.2.2.2.1, bt696.2.2.2.2.1, bt696.2.2.2.2.2.1, bt696.2.2.2.2.2.2.1, bt696.2.2.2.2.2.2.2⟩ : S61)]) l1 (l1.length : Int) (wrap64 (x16_1 + 1))) else (none))) else (impl_learned.l0 k1 x6_1 x7_1 l1 (l1.length : Int) (wrap64 (x16_1 + 1)))) = some (r1, r2) := H
      have A8 := Aside0.mk A80
      clear A80
      have HC9 := Aside0.mk H
      clear H
      have p690 : 0 ≤ (x16_1 : Int) := of_decide_eq_true as_q
      have q690 : x16_1 < (l1.length : Int) := of_decide_eq_true as_q
      obtain ⟨ad690, A690_5, c690_5, e690, hx690_0, hx690_1, hx690_2, hx690_3, hx690_4, hx690_5, hx690_6, hx690_7, hl690_5, hi690_5⟩ := at_T61 HR1.out x16_1 p690 q690
      cases e690
      replace hx690_0 := (HB.out.cell (World.block_lt_of_cell? w _ hx690_0)).trans hx690_0
      replace hx690_1 := (HB.out.cell (World.block_lt_of_cell? w _ hx690_1)).trans hx690_1
      replace hx690_2 := (HB.out.cell (World.block_lt_of_cell? w _ hx690_2)).trans hx690_2
      replace hx690_3 := (HB.out.cell (World.block_lt_of_cell? w _ hx690_3)).trans hx690_3
      replace hx690_4 := (HB.out.cell (World.block_lt_of_cell? w _ hx690_4)).trans hx690_4
      replace hx690_5 := (HB.out.cell (World.block_lt_of_cell? w _ hx690_5)).trans hx690_5
      replace hx690_6 := (HB.out.cell (World.block_lt_of_cell? w _ hx690_6)).trans hx690_6
      replace hx690_7 := (HB.out.cell (World.block_lt_of_cell? w _ hx690_7)).trans hx690_7
      have HR690_5 := Aside0.mk hi690_5
      have HC690_5 := Aside0.mk hl690_5
      clear hi690_5 hl690_5
      replace p690 := eq_true p690
      replace q690 := eq_true q690
      go_upto_if 26 with (first | ((with_reducible refine gate_dst (N := 9) rfl ?_); refine box_q 9 #[.int .i64 0, .int .i64 0, .int .i64 0, .int .i64 0, .int .i64 0, .slice none 0 0, .int .i64 0, .bool false] 61 ?_; intro gb691 hg w10 hbox hb; replace HO_6 := Aside0.mk (Kd.S_below (Kd.S_elderB (kS_q HO_6) gb691 (Nat.le_of_eq hg.symm)) hb); replace HO_7 := Aside0.mk (Kd.S_below (Kd.S_elderB (kS_q HO_7) gb691 (Nat.le_of_eq hg.symm)) hb); have BK691 := Aside0.mk (hbox); have GW691 := Aside0.mk ((by rw [hg]; exact (below_size (bw_q HB)) : w.heap.size ≤ gb691)); have GE691 := Aside0.mk ((by rw [hg]; exact (below_size (bw_q HB)) : w.heap.size ≤ gb691)); replace HB := Aside0.mk (below_step (bw_q HB) hb); clear hb hbox hg; have hcz11_0 : w10.cell? ⟨gb691, 0, none⟩ = some (.int .i64 0) := (blk_cell BK691.out 0).trans rfl; have hcz11_1 : w10.cell? ⟨gb691, 1, none⟩ = some (.int .i64 0) := (blk_cell BK691.out 1).trans rfl; have hcz11_2 : w10.cell? ⟨gb691, 2, none⟩ = some (.int .i64 0) := (blk_cell BK691.out 2).trans rfl; have hcz11_3 : w10.cell? ⟨gb691, 3, none⟩ = some (.int .i64 0) := (blk_cell BK691.out 3).trans rfl; have hcz11_4 : w10.cell? ⟨gb691, 4, none⟩ = some (.int .i64 0) := (blk_cell BK691.out 4).trans rfl; have hcz11_5 : w10.cell? ⟨gb691, 5, none⟩ = some (.slice none 0 0) := (blk_cell BK691.out 5).trans rfl; have hcz11_6 : w10.cell? ⟨gb691, 6, none⟩ = some (.int .i64 0) := (blk_cell BK691.out 6).trans rfl; have hcz11_7 : w10.cell? ⟨gb691, 7, none⟩ = some (.bool false) := (blk_cell BK691.out 7).trans rfl; have hfz11_0 := blk_frozen BK691.out 0; have hfz11_1 := blk_frozen BK691.out 1; have hfz11_2 := blk_frozen BK691.out 2; have hfz11_3 := blk_frozen BK691.out 3; have hfz11_4 := blk_frozen BK691.out 4; have hfz11_5 := blk_frozen BK691.out 5; have hfz11_6 := blk_frozen BK691.out 6; have hfz11_7 := blk_frozen BK691.out 7; obtain ⟨Ao12, co12, eo12⟩ := Kd.S_slice HO_6.out; subst eo12) | ((with_reducible refine gate_callee (f := 42) rfl ?_); refine goesL_ (some 23) rfl rfl Try.func42 (by kernel_rfl) rfl #[.slice Ao12 x6_1.length co12, .agg #[.int .i64 ((rd_T61 l1 x16_1).f0), .int .i64 ((rd_T61 l1 x16_1).f1), .int .i64 ((rd_T61 l1 x16_1).f2), .int .i64 ((rd_T61 l1 x16_1).f3), .int .i64 ((rd_T61 l1 x16_1).f4), .slice A690_5 ((rd_T61 l1 x16_1).f5).length c690_5, .int .i64 ((rd_T61 l1 x16_1).f6), .bool ((rd_T61 l1 x16_1).f7)]] rfl mp_q ?_; (with_reducible refine (impl_Install.calls k1 _ _ x6_1 ((rd_T61 l1 x16_1).f0) ((rd_T61 l1 x16_1).f1) ((rd_T61 l1 x16_1).f2) ((rd_T61 l1 x16_1).f3) ((rd_T61 l1 x16_1).f4) _ _ ((rd_T61 l1 x16_1).f5) ((rd_T61 l1 x16_1).f6) ((rd_T61 l1 x16_1).f7) t692 t695 _ ?side1 ?side2 ?side3 ?side4 A8.out).mono ?_); (case side1 => refine (Kd.S_reads' (e := 61) (base := w.heap.size) (ok := fun k_ => (some k_ ≠ (u7 : Value).ownBlock ∧ k_ ≠ gb691)) (n := x6_1.length) (c := co12) ?_).2.2; exact (by (with_reducible repeat (first | apply Kd.S_alloc | apply Kd.S_drewN | apply Kd.S_drew)); exact (Kd.S_mono (Kd.S_far (p := ⟨gb691, 7, none⟩) (Kd.S_far (p := ⟨gb691, 6, none⟩) (Kd.S_far (p := ⟨gb691, 5, none⟩) (Kd.S_far (p := ⟨gb691, 4, none⟩) (Kd.S_far (p := ⟨gb691, 3, none⟩) (Kd.S_far (p := ⟨gb691, 2, none⟩) (Kd.S_far (p := ⟨gb691, 1, none⟩) (Kd.S_far (p := ⟨gb691, 0, none⟩) (Kd.S_mono HO_6.out (fun k_ hk => (⟨hk, hk.2⟩ : _ ∧ k_ ≠ gb691))) (fun _ hk => hk.2) (.int .i64 ((rd_T61 l1 x16_1).f0))) (fun _ hk => hk.2) (.int .i64 ((rd_T61 l1 x16_1).f1))) (fun _ hk => hk.2) (.int .i64 ((rd_T61 l1 x16_1).f2))) (fun _ hk => hk.2) (.int .i64 ((rd_T61 l1 x16_1).f3))) (fun _ hk => hk.2) (.int .i64 ((rd_T61 l1 x16_1).f4))) (fun _ hk => hk.2) (.slice A690_5 ((rd_T61 l1 x16_1).f5).length c690_5)) (fun _ hk => hk.2) (.int .i64 ((rd_T61 l1 x16_1).f6))) (fun _ hk => hk.2) (.bool ((rd_T61 l1 x16_1).f7))) (fun _ h_ => h_.1)))); (case side2 => exact (Kd.S_reads' HO_6.out).2.1); (case side3 => exact Kd.C_below HR690_5.out (bw_q HB)); (case side4 => exact HC690_5.out); rintro e w13 ⟨v693, rfl, ho0, hb⟩; refine ⟨_, rfl, ?_⟩; have HO694 := Aside0.mk (Kd.S_lower (Kd.S_newB (Kd.S_new' (Kd.S_new' ho0 (Kd.S_lt (by (with_reducible repeat (first | apply Kd.S_alloc | apply Kd.S_drewN | apply Kd.S_drew)); exact (Kd.S_mono (Kd.S_far (p := ⟨gb691, 7, none⟩) (Kd.S_far (p := ⟨gb691, 6, none⟩) (Kd.S_far (p := ⟨gb691, 5, none⟩) (Kd.S_far (p := ⟨gb691, 4, none⟩) (Kd.S_far (p := ⟨gb691, 3, none⟩) (Kd.S_far (p := ⟨gb691, 2, none⟩) (Kd.S_far (p := ⟨gb691, 1, none⟩) (Kd.S_far (p := ⟨gb691, 0, none⟩) (Kd.S_mono HO_6.out (fun k_ hk => (⟨hk, hk.2⟩ : _ ∧ k_ ≠ gb691))) (fun _ hk => hk.2) (.int .i64 ((rd_T61 l1 x16_1).f0))) (fun _ hk => hk.2) (.int .i64 ((rd_T61 l1 x16_1).f1))) (fun _ hk => hk.2) (.int .i64 ((rd_T61 l1 x16_1).f2))) (fun _ hk => hk.2) (.int .i64 ((rd_T61 l1 x16_1).f3))) (fun _ hk => hk.2) (.int .i64 ((rd_T61 l1 x16_1).f4))) (fun _ hk => hk.2) (.slice A690_5 ((rd_T61 l1 x16_1).f5).length c690_5)) (fun _ hk => hk.2) (.int .i64 ((rd_T61 l1 x16_1).f6))) (fun _ hk => hk.2) (.bool ((rd_T61 l1 x16_1).f7))) (fun _ h_ => h_.1))))) (Kd.S_lt (by (with_reducible repeat (first | apply Kd.S_alloc | apply Kd.S_drewN | apply Kd.S_drew)); exact (Kd.S_mono (Kd.S_far (p := ⟨gb691, 7, none⟩) (Kd.S_far (p := ⟨gb691, 6, none⟩) (Kd.S_far (p := ⟨gb691, 5, none⟩) (Kd.S_far (p := ⟨gb691, 4, none⟩) (Kd.S_far (p := ⟨gb691, 3, none⟩) (Kd.S_far (p := ⟨gb691, 2, none⟩) (Kd.S_far (p := ⟨gb691, 1, none⟩) (Kd.S_far (p := ⟨gb691, 0, none⟩) (Kd.S_mono HO_7.out (fun k_ hk => (⟨hk, hk.2⟩ : _ ∧ k_ ≠ gb691))) (fun _ hk => hk.2) (.int .i64 ((rd_T61 l1 x16_1).f0))) (fun _ hk => hk.2) (.int .i64 ((rd_T61 l1 x16_1).f1))) (fun _ hk => hk.2) (.int .i64 ((rd_T61 l1 x16_1).f2))) (fun _ hk => hk.2) (.int .i64 ((rd_T61 l1 x16_1).f3))) (fun _ hk => hk.2) (.int .i64 ((rd_T61 l1 x16_1).f4))) (fun _ hk => hk.2) (.slice A690_5 ((rd_T61 l1 x16_1).f5).length c690_5)) (fun _ hk => hk.2) (.int .i64 ((rd_T61 l1 x16_1).f6))) (fun _ hk => hk.2) (.bool ((rd_T61 l1 x16_1).f7))) (fun _ h_ => h_.1))))) (g := gb691) (o := .cells #[.int .i64 ((rd_T61 l1 x16_1).f0), .int .i64 ((rd_T61 l1 x16_1).f1), .int .i64 ((rd_T61 l1 x16_1).f2), .int .i64 ((rd_T61 l1 x16_1).f3), .int .i64 ((rd_T61 l1 x16_1).f4), .slice A690_5 ((rd_T61 l1 x16_1).f5).length c690_5, .int .i64 ((rd_T61 l1 x16_1).f6), .bool ((rd_T61 l1 x16_1).f7)] 61 (0, 0)) (by refine bz_ ?_; refine blk_put (cs := #[.int .i64 ((rd_T61 l1 x16_1).f0), .int .i64 ((rd_T61 l1 x16_1).f1), .int .i64 ((rd_T61 l1 x16_1).f2), .int .i64 ((rd_T61 l1 x16_1).f3), .int .i64 ((rd_T61 l1 x16_1).f4), .slice A690_5 ((rd_T61 l1 x16_1).f5).length c690_5, .int .i64 ((rd_T61 l1 x16_1).f6), .bool false]) ?_ 7 _ rfl; refine bz_ ?_; refine blk_put (cs := #[.int .i64 ((rd_T61 l1 x16_1).f0), .int .i64 ((rd_T61 l1 x16_1).f1), .int .i64 ((rd_T61 l1 x16_1).f2), .int .i64 ((rd_T61 l1 x16_1).f3), .int .i64 ((rd_T61 l1 x16_1).f4), .slice A690_5 ((rd_T61 l1 x16_1).f5).length c690_5, .int .i64 0, .bool false]) ?_ 6 _ rfl; refine bz_ ?_; refine blk_put (cs := #[.int .i64 ((rd_T61 l1 x16_1).f0), .int .i64 ((rd_T61 l1 x16_1).f1), .int .i64 ((rd_T61 l1 x16_1).f2), .int .i64 ((rd_T61 l1 x16_1).f3), .int .i64 ((rd_T61 l1 x16_1).f4), .slice none 0 0, .int .i64 0, .bool false]) ?_ 5 _ rfl; refine bz_ ?_; refine blk_put (cs := #[.int .i64 ((rd_T61 l1 x16_1).f0), .int .i64 ((rd_T61 l1 x16_1).f1), .int .i64 ((rd_T61 l1 x16_1).f2), .int .i64 ((rd_T61 l1 x16_1).f3), .int .i64 0, .slice none 0 0, .int .i64 0, .bool false]) ?_ 4 _ rfl; refine bz_ ?_; refine blk_put (cs := #[.int .i64 ((rd_T61 l1 x16_1).f0), .int .i64 ((rd_T61 l1 x16_1).f1), .int .i64 ((rd_T61 l1 x16_1).f2), .int .i64 0, .int .i64 0, .slice none 0 0, .int .i64 0, .bool false]) ?_ 3 _ rfl; refine bz_ ?_; refine blk_put (cs := #[.int .i64 ((rd_T61 l1 x16_1).f0), .int .i64 ((rd_T61 l1 x16_1).f1), .int .i64 0, .int .i64 0, .int .i64 0, .slice none 0 0, .int .i64 0, .bool false]) ?_ 2 _ rfl; refine bz_ ?_; refine blk_put (cs := #[.int .i64 ((rd_T61 l1 x16_1).f0), .int .i64 0, .int .i64 0, .int .i64 0, .int .i64 0, .slice none 0 0, .int .i64 0, .bool false]) ?_ 1 _ rfl; refine bz_ ?_; refine blk_put (cs := #[.int .i64 0, .int .i64 0, .int .i64 0, .int .i64 0, .int .i64 0, .slice none 0 0, .int .i64 0, .bool false]) ?_ 0 _ rfl; refine bz_ ?_; exact BK691.out)) (below_size (bw_q HB))); replace HO_6 := Aside0.mk (Kd.S_elder' (by (with_reducible repeat (first | apply Kd.S_alloc | apply Kd.S_drewN | apply Kd.S_drew)); exact (Kd.S_mono (Kd.S_far (p := ⟨gb691, 7, none⟩) (Kd.S_far (p := ⟨gb691, 6, none⟩) (Kd.S_far (p := ⟨gb691, 5, none⟩) (Kd.S_far (p := ⟨gb691, 4, none⟩) (Kd.S_far (p := ⟨gb691, 3, none⟩) (Kd.S_far (p := ⟨gb691, 2, none⟩) (Kd.S_far (p := ⟨gb691, 1, none⟩) (Kd.S_far (p := ⟨gb691, 0, none⟩) (Kd.S_mono HO_6.out (fun k_ hk => (⟨hk, hk.2⟩ : _ ∧ k_ ≠ gb691))) (fun _ hk => hk.2) (.int .i64 ((rd_T61 l1 x16_1).f0))) (fun _ hk => hk.2) (.int .i64 ((rd_T61 l1 x16_1).f1))) (fun _ hk => hk.2) (.int .i64 ((rd_T61 l1 x16_1).f2))) (fun _ hk => hk.2) (.int .i64 ((rd_T61 l1 x16_1).f3))) (fun _ hk => hk.2) (.int .i64 ((rd_T61 l1 x16_1).f4))) (fun _ hk => hk.2) (.slice A690_5 ((rd_T61 l1 x16_1).f5).length c690_5)) (fun _ hk => hk.2) (.int .i64 ((rd_T61 l1 x16_1).f6))) (fun _ hk => hk.2) (.bool ((rd_T61 l1 x16_1).f7))) (fun _ h_ => h_.1))) (Kd.S_base ho0) hb); replace HO_7 := Aside0.mk (Kd.S_elder' (by (with_reducible repeat (first | apply Kd.S_alloc | apply Kd.S_drewN | apply Kd.S_drew)); exact (Kd.S_mono (Kd.S_far (p := ⟨gb691, 7, none⟩) (Kd.S_far (p := ⟨gb691, 6, none⟩) (Kd.S_far (p := ⟨gb691, 5, none⟩) (Kd.S_far (p := ⟨gb691, 4, none⟩) (Kd.S_far (p := ⟨gb691, 3, none⟩) (Kd.S_far (p := ⟨gb691, 2, none⟩) (Kd.S_far (p := ⟨gb691, 1, none⟩) (Kd.S_far (p := ⟨gb691, 0, none⟩) (Kd.S_mono HO_7.out (fun k_ hk => (⟨hk, hk.2⟩ : _ ∧ k_ ≠ gb691))) (fun _ hk => hk.2) (.int .i64 ((rd_T61 l1 x16_1).f0))) (fun _ hk => hk.2) (.int .i64 ((rd_T61 l1 x16_1).f1))) (fun _ hk => hk.2) (.int .i64 ((rd_T61 l1 x16_1).f2))) (fun _ hk => hk.2) (.int .i64 ((rd_T61 l1 x16_1).f3))) (fun _ hk => hk.2) (.int .i64 ((rd_T61 l1 x16_1).f4))) (fun _ hk => hk.2) (.slice A690_5 ((rd_T61 l1 x16_1).f5).length c690_5)) (fun _ hk => hk.2) (.int .i64 ((rd_T61 l1 x16_1).f6))) (fun _ hk => hk.2) (.bool ((rd_T61 l1 x16_1).f7))) (fun _ h_ => h_.1))) (Kd.S_base ho0) hb); replace BK691 := Aside0.mk (blk_below (g := gb691) (o := .cells #[.int .i64 ((rd_T61 l1 x16_1).f0), .int .i64 ((rd_T61 l1 x16_1).f1), .int .i64 ((rd_T61 l1 x16_1).f2), .int .i64 ((rd_T61 l1 x16_1).f3), .int .i64 ((rd_T61 l1 x16_1).f4), .slice A690_5 ((rd_T61 l1 x16_1).f5).length c690_5, .int .i64 ((rd_T61 l1 x16_1).f6), .bool ((rd_T61 l1 x16_1).f7)] 61 (0, 0)) (by refine bz_ ?_; refine blk_put (cs := #[.int .i64 ((rd_T61 l1 x16_1).f0), .int .i64 ((rd_T61 l1 x16_1).f1), .int .i64 ((rd_T61 l1 x16_1).f2), .int .i64 ((rd_T61 l1 x16_1).f3), .int .i64 ((rd_T61 l1 x16_1).f4), .slice A690_5 ((rd_T61 l1 x16_1).f5).length c690_5, .int .i64 ((rd_T61 l1 x16_1).f6), .bool false]) ?_ 7 _ rfl; refine bz_ ?_; refine blk_put (cs := #[.int .i64 ((rd_T61 l1 x16_1).f0), .int .i64 ((rd_T61 l1 x16_1).f1), .int .i64 ((rd_T61 l1 x16_1).f2), .int .i64 ((rd_T61 l1 x16_1).f3), .int .i64 ((rd_T61 l1 x16_1).f4), .slice A690_5 ((rd_T61 l1 x16_1).f5).length c690_5, .int .i64 0, .bool false]) ?_ 6 _ rfl; refine bz_ ?_; refine blk_put (cs := #[.int .i64 ((rd_T61 l1 x16_1).f0), .int .i64 ((rd_T61 l1 x16_1).f1), .int .i64 ((rd_T61 l1 x16_1).f2), .int .i64 ((rd_T61 l1 x16_1).f3), .int .i64 ((rd_T61 l1 x16_1).f4), .slice none 0 0, .int .i64 0, .bool false]) ?_ 5 _ rfl; refine bz_ ?_; refine blk_put (cs := #[.int .i64 ((rd_T61 l1 x16_1).f0), .int .i64 ((rd_T61 l1 x16_1).f1), .int .i64 ((rd_T61 l1 x16_1).f2), .int .i64 ((rd_T61 l1 x16_1).f3), .int .i64 0, .slice none 0 0, .int .i64 0, .bool false]) ?_ 4 _ rfl; refine bz_ ?_; refine blk_put (cs := #[.int .i64 ((rd_T61 l1 x16_1).f0), .int .i64 ((rd_T61 l1 x16_1).f1), .int .i64 ((rd_T61 l1 x16_1).f2), .int .i64 0, .int .i64 0, .slice none 0 0, .int .i64 0, .bool false]) ?_ 3 _ rfl; refine bz_ ?_; refine blk_put (cs := #[.int .i64 ((rd_T61 l1 x16_1).f0), .int .i64 ((rd_T61 l1 x16_1).f1), .int .i64 0, .int .i64 0, .int .i64 0, .slice none 0 0, .int .i64 0, .bool false]) ?_ 2 _ rfl; refine bz_ ?_; refine blk_put (cs := #[.int .i64 ((rd_T61 l1 x16_1).f0), .int .i64 0, .int .i64 0, .int .i64 0, .int .i64 0, .slice none 0 0, .int .i64 0, .bool false]) ?_ 1 _ rfl; refine bz_ ?_; refine blk_put (cs := #[.int .i64 0, .int .i64 0, .int .i64 0, .int .i64 0, .int .i64 0, .slice none 0 0, .int .i64 0, .bool false]) ?_ 0 _ rfl; refine bz_ ?_; exact BK691.out) hb); replace HB := Aside0.mk (below_step (bw_q HB) hb); (try clear hb); (try clear hb2); (try clear hk); (try clear hi); (try clear ho0)))
      (try clear hx690_0); (try clear hx690_1); (try clear hx690_2); (try clear hx690_3); (try clear hx690_4); (try clear hx690_5); (try clear hx690_6); (try clear hx690_7)
      have H := HC9.out
      clear HC9
      by_cases c14 : t695 = true
      ·subst c14
       have H1 : ((impl_copyRecord.f ((rd_T61 l1 x16_1).f0) ((rd_T61 l1 x16_1).f1) ((rd_T61 l1 x16_1).f2) ((rd_T61 l1 x16_1).f3) ((rd_T61 l1 x16_1).f4) ((rd_T61 l1 x16_1).f5) ((rd_T61 l1 x16_1).f6) ((rd_T61 l1 x16_1).f7)).bind fun bt696 => (if x7_1.length < 1759218604441 then (impl_learned.l0 k1 t692 (x7_1 ++ [(⟨bt696.1, bt696.2.1, bt696.2.2.1, bt696.2.2.2.1, bt696.2.2.2.2.1, bt696.2.2.2.2.2.1, bt696.2.2.2.2.2.2.1, bt696.2.2.2.2.2.2.2⟩ : S61)]) l1 (l1.length : Int) (wrap64 (x16_1 + 1))) else (none))) = some (r1, r2) := by rw [if_pos rfl] at H; exact H
       clear H
       have H := H1
       clear H1
       replace H := Option.bind_eq_some_iff.mp H
       obtain ⟨⟨t696, t697, t698, t699, t700, t701, t704, t705⟩, A150, H⟩ := H
       replace H : (if x7_1.length < 1759218604441 then (impl_learned.l0 k1 t692 (x7_1 ++ [(⟨t696, t697, t698, t699, t700, t701, t704, t705⟩ : S61)]) l1 (l1.length : Int) (wrap64 (x16_1 + 1))) else (none)) = some (r1, r2) := H
       have A15 := Aside0.mk A150
       clear A150
       by_cases c16 : x7_1.length < 1759218604441
       ·rw [if_pos c16] at H
        have LMc16 := Aside0.mk c16
        clear c16
        obtain ⟨y706, hy706⟩ : ∃ y_ : List (S61), y_ = (x7_1 ++ [(⟨t696, t697, t698, t699, t700, t701, t704, t705⟩ : S61)]) := ⟨_, rfl⟩
        replace H : (impl_learned.l0 k1 t692 y706 l1 (l1.length : Int) (wrap64 (x16_1 + 1))) = some (r1, r2) := by first | (rw [hy706]; with_reducible exact H) | (have H2_ := (Option.bind_some _ _).symm.trans H; rw [hy706]; with_reducible exact H2_) | (have H2_ := (Option.bind_some _ _).symm.trans H; with_reducible exact H2_) | with_reducible exact H | (rw [hy706]; exact H) | exact H
        have Ny706 := Aside0.mk hy706
        clear hy706
        have H' := Aside0.mk H
        clear H
        obtain ⟨hcz17_0, hcz17_1, hcz17_2, hcz17_3, hcz17_4, hcz17_5, hcz17_6, hcz17_7⟩ := cz8_ BK691
        obtain ⟨hfz17_0, hfz17_1, hfz17_2, hfz17_3, hfz17_4, hfz17_5, hfz17_6, hfz17_7⟩ := fz8_ BK691
        go_wp2_with (first | ((with_reducible refine gate_callee (f := 108) rfl ?_); refine goesL_ (some 30) rfl rfl Try.func108 (by kernel_rfl) rfl #[.agg #[.int .i64 ((rd_T61 l1 x16_1).f0), .int .i64 ((rd_T61 l1 x16_1).f1), .int .i64 ((rd_T61 l1 x16_1).f2), .int .i64 ((rd_T61 l1 x16_1).f3), .int .i64 ((rd_T61 l1 x16_1).f4), .slice A690_5 ((rd_T61 l1 x16_1).f5).length c690_5, .int .i64 ((rd_T61 l1 x16_1).f6), .bool ((rd_T61 l1 x16_1).f7)]] rfl mp_q ?_; (with_reducible refine (impl_copyRecord.calls ((rd_T61 l1 x16_1).f0) ((rd_T61 l1 x16_1).f1) ((rd_T61 l1 x16_1).f2) ((rd_T61 l1 x16_1).f3) ((rd_T61 l1 x16_1).f4) _ _ ((rd_T61 l1 x16_1).f5) ((rd_T61 l1 x16_1).f6) ((rd_T61 l1 x16_1).f7) t696 t697 t698 t699 t700 t701 t704 t705 _ ?side1 ?side2 A15.out).mono ?_); (case side1 => exact cs_q (Kd.C_below HR690_5.out HB.out)); (case side2 => exact HC690_5.out); rintro e w18 ⟨v702, rfl, ho0, hb⟩; refine ⟨_, rfl, ?_⟩; have hs_v702 : (v702 : Value).oneCell' = true := (by first | (obtain ⟨A_, c_, e_⟩ := Kd.R_slice ho0; simp [e_, Value.oneCell']) | (obtain ⟨A_, c_, e_⟩ := Kd.S_slice ho0; simp [e_, Value.oneCell']) | (obtain ⟨A_, c_, e_⟩ := Kd.N_slice ho0; simp [e_, Value.oneCell']) | (obtain ⟨A_, c_, e_⟩ := Kd.V_slice ho0; simp [e_, Value.oneCell'])); have hst_v702 := fun (w_ : World) (a_ : Addr) m_ => run_store Try.prog w_ a_ v702 m_ hs_v702; replace HO_6 := Aside0.mk (Kd.S_elder' (kS_q HO_6) (Kd.R_base ho0) hb); replace HO_7 := Aside0.mk (Kd.S_elder' (kS_q HO_7) (Kd.R_base ho0) hb); replace HO694 := Aside0.mk (Kd.S_elder' (kS_q HO694) (Kd.R_base ho0) hb); have HO703 := Aside0.mk (Kd.R_lower ho0 (below_size (bw_q HB))); replace BK691 := Aside0.mk (blk_below (g := gb691) (bk_q BK691) hb); replace HB := Aside0.mk (below_step (bw_q HB) hb); (try clear hb); (try clear hb2); (try clear hk); (try clear hi); (try clear ho0); obtain ⟨Ao20, co20, eo20⟩ := Kd.R_slice HO703.out; subst eo20) | ((with_reducible refine gate_builtin (b := .append) (xs := #[.tmp 28, .tmp 31]) rfl ?_); at_builtin; refine Kd.S_append k61 (w0 := w) w.heap.size rfl (.tmp 28) (.tmp 31) 41 61 (.agg #[(.int .i64 0), (.int .i64 0), (.int .i64 0), (.int .i64 0), (.int .i64 0), (.slice none 0 0), (.int .i64 0), (.bool false)]) 80 rfl Try.underlying41 info61 rfl (by decide) (by omega) u7 x7_1 (⟨t696, t697, t698, t699, t700, t701, t704, t705⟩ : S61) [.int .i64 t696, .int .i64 t697, .int .i64 t698, .int .i64 t699, .int .i64 t700, .slice Ao20 t701.length co20, .int .i64 t704, .bool t705] (fun k_ => some k_ ≠ (.slice Ao12 x6_1.length co12 : Value).ownBlock ∧ some k_ ≠ (v693 : Value).ownBlock ∧ k_ ≠ gb691) (fun k_ => some k_ = (.slice Ao20 t701.length co20 : Value).ownBlock) rfl rfl ?aP (fun k_ hk_ => ((Kd.R_mono (ok' := fun k_ => ((fun k_ => some k_ ≠ (.slice Ao12 x6_1.length co12 : Value).ownBlock ∧ some k_ ≠ (v693 : Value).ownBlock ∧ k_ ≠ gb691)) k_ ∧ some k_ ≠ (u7 : Value).ownBlock) (Kd.R_types (Kd.R_apart' (Kd.R_apart' (Kd.R_apart' (HO703.out) (Kd.S_typed HO_6.out) (by decide)) (Kd.S_typed HO694.out) (by decide)) (Kd.S_typed HO_7.out) (by decide)) BK691.out (by decide)) (fun k_ hk => ⟨⟨hk.1.1.1.2, ⟨hk.1.1.2, hk.2⟩⟩, hk.1.2⟩))).1 k_ hk_.symm) ?aF ?aO ?aB ?aS ?aL ?_; (case aP => exact k61_mkM _ _ _ (⟨t696, t697, t698, t699, t700, t701, t704, t705⟩ : S61) (Kd.R_mono (Kd.R_tight rfl (Kd.R_mono (ok' := fun k_ => ((fun k_ => some k_ ≠ (.slice Ao12 x6_1.length co12 : Value).ownBlock ∧ some k_ ≠ (v693 : Value).ownBlock ∧ k_ ≠ gb691)) k_ ∧ some k_ ≠ (u7 : Value).ownBlock) (Kd.R_types (Kd.R_apart' (Kd.R_apart' (Kd.R_apart' (HO703.out) (Kd.S_typed HO_6.out) (by decide)) (Kd.S_typed HO694.out) (by decide)) (Kd.S_typed HO_7.out) (by decide)) BK691.out (by decide)) (fun k_ hk => ⟨⟨hk.1.1.1.2, ⟨hk.1.1.2, hk.2⟩⟩, hk.1.2⟩))) (fun _ h_ => h_))); (case aB => exact (bw_q HB)); (case aF => exact (fun k_ hk => ⟨Kd.fresh' (Kd.S_lt (kS_q HO_6)) k_ hk, Kd.fresh' (Kd.S_lt (kS_q HO694)) k_ hk, Kd.freshB (g := gb691) (o := .cells #[.int .i64 ((rd_T61 l1 x16_1).f0), .int .i64 ((rd_T61 l1 x16_1).f1), .int .i64 ((rd_T61 l1 x16_1).f2), .int .i64 ((rd_T61 l1 x16_1).f3), .int .i64 ((rd_T61 l1 x16_1).f4), .slice A690_5 ((rd_T61 l1 x16_1).f5).length c690_5, .int .i64 ((rd_T61 l1 x16_1).f6), .bool ((rd_T61 l1 x16_1).f7)] 61 (0, 0)) (bk_q BK691) k_ hk⟩)); (case aO => exact (by (with_reducible repeat (first | apply Kd.S_alloc | apply Kd.S_drewN | apply Kd.S_drew)); exact Kd.S_mono HO_7.out (fun k_ hk => ⟨⟨hk.1.1.1, ⟨hk.1.2, hk.1.1.2⟩⟩, fun e_ => hk.2 e_⟩))); (case aS => exact (below_size (bw_q HB))); (case aL => have := LMc16.out; omega); intro v707 w19 ho hb hg hat; rw [← Ny706.out] at ho; replace HO_6 := Aside0.mk (Kd.S_after (ok := (fun k_ => some k_ ≠ (v693 : Value).ownBlock ∧ some k_ ≠ (.slice Ao20 t701.length co20 : Value).ownBlock ∧ k_ ≠ gb691)) (by (with_reducible repeat (first | apply Kd.S_alloc | apply Kd.S_drewN | apply Kd.S_drew)); exact Kd.S_mono HO_6.out (fun _ hk => ⟨⟨hk.1.2, ⟨hk.2, hk.1.1.2⟩⟩, hk.1.1.1⟩)) hg hat); replace BK691 := Aside0.mk (blk_grown (g := gb691) (o := .cells #[.int .i64 ((rd_T61 l1 x16_1).f0), .int .i64 ((rd_T61 l1 x16_1).f1), .int .i64 ((rd_T61 l1 x16_1).f2), .int .i64 ((rd_T61 l1 x16_1).f3), .int .i64 ((rd_T61 l1 x16_1).f4), .slice A690_5 ((rd_T61 l1 x16_1).f5).length c690_5, .int .i64 ((rd_T61 l1 x16_1).f6), .bool ((rd_T61 l1 x16_1).f7)] 61 (0, 0)) (bk_q BK691) hg (Kd.S_away HO_7.out (fun _ hk => hk.1.1.2))); replace HO694 := Aside0.mk (Kd.S_after (ok := (fun k_ => some k_ ≠ (.slice Ao12 x6_1.length co12 : Value).ownBlock ∧ some k_ ≠ (.slice Ao20 t701.length co20 : Value).ownBlock ∧ k_ ≠ gb691)) (by (with_reducible repeat (first | apply Kd.S_alloc | apply Kd.S_drewN | apply Kd.S_drew)); exact Kd.S_mono HO694.out (fun _ hk => ⟨⟨hk.1.1.1.2, ⟨hk.2, hk.1.2⟩⟩, hk.1.1.2⟩)) hg hat); replace HB := Aside0.mk (hb); have HO708 := Aside0.mk (ho); clear HO_7 HO703; clear ho hb hg hat))
        go_roundg k1
        case measure => have := HK1.out; omega
        case rel => exact ⟨(t692), (y706), (wrap64 (x16_1 + 1)), (by first | rfl | (simp; done) | (simp [*]; done)), H', ⟨by have := HK1.out; omega⟩, ⟨by (with_reducible repeat (first | apply Kd.S_alloc | apply Kd.S_drewN | apply Kd.S_drew)); exact Kd.S_mono HO694.out (fun _ hk => hk.2)⟩, ⟨by (with_reducible repeat (first | apply Kd.S_alloc | apply Kd.S_drewN | apply Kd.S_drew)); exact Kd.S_mono HO708.out (fun _ hk => hk.2.1)⟩, ⟨bw_q HB⟩⟩
       ·rw [if_neg c16] at H
        exact absurd H (by simp)
      ·replace c14 := Bool.eq_false_iff.mpr c14
       subst c14
       have H1 : (impl_learned.l0 k1 x6_1 x7_1 l1 (l1.length : Int) (wrap64 (x16_1 + 1))) = some (r1, r2) := by rw [if_neg (show ¬ (false = true) by decide)] at H; exact H
       clear H
       have H := H1
       clear H1
       have H' := Aside0.mk H
       clear H
       go_wp2
       go_roundg k1
       case measure => have := HK1.out; omega
       case rel => exact ⟨(x6_1), (x7_1), (wrap64 (x16_1 + 1)), (by first | rfl | (simp; done) | (simp [*]; done)), H', ⟨by have := HK1.out; omega⟩, ⟨by (with_reducible repeat (first | apply Kd.S_alloc | apply Kd.S_drewN | apply Kd.S_drew)); exact Kd.S_mono HO_6.out (fun _ hk => hk.1.1)⟩, ⟨by (with_reducible repeat (first | apply Kd.S_alloc | apply Kd.S_drewN | apply Kd.S_drew)); exact Kd.S_mono HO_7.out (fun _ hk => hk.1.1)⟩, ⟨bw_q HB⟩⟩
     ·rw [if_neg c7] at H
      exact absurd H (by simp)
    ·rw [if_neg c6] at H
     exact absurd H (by simp)
   ·rw [if_neg c5] at H
    have c5b0 : decide (x16_1 < (l1.length : Int)) = false := decide_eq_false c5
    clear c5
    simp only [Option.some.injEq, Prod.mk.injEq] at H
    obtain ⟨rfl, rfl⟩ := H
    go_wp2
    go_ret2
    exact ⟨_, _, er_q, by (with_reducible repeat (first | apply Kd.S_alloc | apply Kd.S_drewN | apply Kd.S_drew)); exact HO_6.out, by (with_reducible repeat (first | apply Kd.S_alloc | apply Kd.S_drewN | apply Kd.S_drew)); exact HO_7.out, bw_q HB⟩

end Go.Proofs.Ythjmdiggglkeaaa.Q

/- A Go function as a Lean function, and its contract: for every input the Go code comes to what the Lean function tells. -/


namespace Go.Proofs.Ythjmdiggglkeaaa.Q
open Go.RowKit Go.Proofs.YthjmdiggglkeaaaW.PrintWords Go.Proofs.YthjmdiggglkeaaaW.PrintLast Go.Proofs.YthjmdiggglkeaaaW.PrintMore
attribute [local go_sem] max2_int min2_int max_two min_two max_three min_three max_four min_four   -- for this text's walks alone
set_option linter.unusedVariables false
set_option linter.unusedSimpArgs false

/-! ### impl_Merge: function 44 -/
def impl_Merge.f (k : Nat) (l0 : List (S61)) (l1 : List (S61)) : Option ((List (S61))) := (impl_learned.f k l0 l1).bind fun bt1064 => (some bt1064.1)
theorem impl_Merge.mono : ∀ a0 a1 k, LeO (impl_Merge.f k a0 a1) (impl_Merge.f (k + 1) a0 a1) := by
 intro a0 a1 k
 unfold impl_Merge.f
 repeat' first
   | (with_reducible exact impl_learned.mono _ _ _)
   | (with_reducible exact LeO.refl _)
   | (with_reducible exact LeO.none _)
   | (with_reducible refine LeO.ite ?_ ?_)
   | (with_reducible refine LeO.bind ?_ (fun _ => ?_))
   | exact impl_learned.mono _ _ _
   | exact LeO.none _
   | refine LeO.ite ?_ ?_
   | refine LeO.bind ?_ (fun _ => ?_)
set_option maxHeartbeats 8000000 in
set_option maxRecDepth 100000 in
theorem impl_Merge.calls (k : Nat) (A0 : Option Addr) (c0 : Nat) (l0 : List (S61)) (A1 : Option Addr) (c1 : Nat) (l1 : List (S61)) (r : List (S61)) (w : World) (hr0 : Kd.C k61 w A0 l0.length l0) (hc0 : l0.length ≤ c0) (hr1 : Kd.C k61 w A1 l1.length l1) (hc1 : l1.length ≤ c1) (h : impl_Merge.f k l0 l1 = some r) :
  Calls Try.prog 44 #[.slice A0 l0.length c0, .slice A1 l1.length c1] w fun e w' => ∃ v0_ : Value, e = .returned (v0_) ∧ Kd.S k61 61 w' w.heap.size (fun _ => True) v0_ r ∧ Below w.heap.size w w' := by
 have HR0 := Aside0.mk hr0
 have HC0 := Aside0.mk hc0
 clear hr0 hc0
 have HR1 := Aside0.mk hr1
 have HC1 := Aside0.mk hc1
 clear hr1 hc1
 have HB := Aside0.mk (Below.refl w.heap.size w)
 have H : ((impl_learned.f k l0 l1).bind fun bt1064 => (some bt1064.1)) = some r := h
 clear h
 replace H := Option.bind_eq_some_iff.mp H
 obtain ⟨⟨t1064, t1065⟩, A30, H⟩ := H
 replace H : (some t1064) = some r := H
 have A3 := Aside0.mk A30
 clear A30
 obtain rfl := Option.some.inj H
 go_enter Try.func44, Try.ntmps44
 go_wp2_with (first | ((with_reducible refine gate_callee (f := 97) rfl ?_); refine goesL_ (some 10) rfl rfl Try.func97 (by kernel_rfl) rfl #[.slice A0 l0.length c0, .slice A1 l1.length c1] rfl mp_q ?_; (with_reducible refine (impl_learned.calls k _ _ l0 _ _ l1 t1064 t1065 _ ?side1 ?side2 ?side3 ?side4 A3.out).mono ?_); (case side1 => repeat (first | exact HR0.out | (with_reducible refine Kd.C_alloc ?_ _) | (with_reducible refine Kd.C_drewN ?_ _) | (with_reducible refine Kd.C_drew ?_))); (case side2 => exact HC0.out); (case side3 => repeat (first | exact HR1.out | (with_reducible refine Kd.C_alloc ?_ _) | (with_reducible refine Kd.C_drewN ?_ _) | (with_reducible refine Kd.C_drew ?_))); (case side4 => exact HC1.out); rintro e w4 ⟨v1066, v1068, rfl, ho0, ho1, hb⟩; refine ⟨_, rfl, ?_⟩; have HO1067 := Aside0.mk (Kd.S_lower ho0 (below_size (bw_q HB))); have HO1069 := Aside0.mk (Kd.S_lower ho1 (below_size (bw_q HB))); replace HB := Aside0.mk (below_step (bw_q HB) hb); (try clear hb); (try clear hb2); (try clear hk); (try clear hi); (try clear ho0); (try clear ho1)))
 go_ret
 exact ⟨_, er_q, by (with_reducible repeat (first | apply Kd.S_alloc | apply Kd.S_drewN | apply Kd.S_drew)); exact Kd.S_mono HO1067.out (fun _ hk => trivial), bw_q HB⟩

end Go.Proofs.Ythjmdiggglkeaaa.Q

/- A Go function as a Lean function, and its contract: for every input the Go code comes to what the Lean function tells. -/


namespace Go.Proofs.Ythjmdiggglkeaaa.Q
open Go.RowKit Go.Proofs.YthjmdiggglkeaaaW.PrintWords Go.Proofs.YthjmdiggglkeaaaW.PrintLast Go.Proofs.YthjmdiggglkeaaaW.PrintMore
attribute [local go_sem] max2_int min2_int max_two min_two max_three min_three max_four min_four   -- for this text's walks alone
set_option linter.unusedVariables false
set_option linter.unusedSimpArgs false

/-! ### impl_Scope: function 56 -/
def impl_Scope.l0 : Nat → Int → List (S61) → List (S61) → Int → Int → Option ((List (S61)))
 | 0, _, _, _, _, _ => none
 | k + 1, x1, x5, x8, x9, x10 => if x10 < x9 then (if 0 ≤ x10 then (if x10 < (x8.length : Int) then (if ((rd_T61 x8 x10).f0) = x1 then ((impl_copyRecord.f ((rd_T61 x8 x10).f0) ((rd_T61 x8 x10).f1) ((rd_T61 x8 x10).f2) ((rd_T61 x8 x10).f3) ((rd_T61 x8 x10).f4) ((rd_T61 x8 x10).f5) ((rd_T61 x8 x10).f6) ((rd_T61 x8 x10).f7)).bind fun bt1154 => (if x5.length < 1759218604441 then (impl_Scope.l0 k x1 (x5 ++ [(⟨bt1154.1, bt1154.2.1, bt1154.2.2.1, bt1154.2.2.2.1, bt1154.2.2.2.2.1, bt1154.2.2.2.2.2.1, bt1154.2.2.2.2.2.2.1, bt1154.2.2.2.2.2.2.2⟩ : S61)]) x8 x9 (wrap64 (x10 + 1))) else (none))) else (if ((rd_T61 x8 x10).f0) = 9 then ((impl_copyRecord.f ((rd_T61 x8 x10).f0) ((rd_T61 x8 x10).f1) ((rd_T61 x8 x10).f2) ((rd_T61 x8 x10).f3) ((rd_T61 x8 x10).f4) ((rd_T61 x8 x10).f5) ((rd_T61 x8 x10).f6) ((rd_T61 x8 x10).f7)).bind fun bt1167 => (if x5.length < 1759218604441 then (impl_Scope.l0 k x1 (x5 ++ [(⟨bt1167.1, bt1167.2.1, bt1167.2.2.1, bt1167.2.2.2.1, bt1167.2.2.2.2.1, bt1167.2.2.2.2.2.1, bt1167.2.2.2.2.2.2.1, bt1167.2.2.2.2.2.2.2⟩ : S61)]) x8 x9 (wrap64 (x10 + 1))) else (none))) else (impl_Scope.l0 k x1 x5 x8 x9 (wrap64 (x10 + 1))))) else (none)) else (none)) else (some x5)
def impl_Scope.f (k : Nat) (l0 : List (S61)) (a1 : Int) : Option ((List (S61))) := impl_Scope.l0 k a1 ([] : List (S61)) l0 (l0.length : Int) 0
theorem impl_Scope.mono_l : ∀ k, (∀ y0 y1 y2 y3 y4, LeO (impl_Scope.l0 k y0 y1 y2 y3 y4) (impl_Scope.l0 (k + 1) y0 y1 y2 y3 y4))
 | 0 => fun _ _ _ _ _ r h => by simp [impl_Scope.l0] at h
 | k + 1 => by
  have ih0 := impl_Scope.mono_l k
  ·intro y0 y1 y2 y3 y4
   unfold impl_Scope.l0
   repeat' first
   | (with_reducible exact ih0 _ _ _ _ _)
   | (with_reducible exact LeO.refl _)
   | (with_reducible exact LeO.none _)
   | (with_reducible refine LeO.ite ?_ ?_)
   | (with_reducible refine LeO.bind ?_ (fun _ => ?_))
   | exact ih0 _ _ _ _ _
   | exact LeO.none _
   | refine LeO.ite ?_ ?_
   | refine LeO.bind ?_ (fun _ => ?_)
theorem impl_Scope.mono : ∀ a0 a1 k, LeO (impl_Scope.f k a0 a1) (impl_Scope.f (k + 1) a0 a1) := by
 intro a0 a1 k
 have ih0 := impl_Scope.mono_l k
 unfold impl_Scope.f
 repeat' first
   | (with_reducible exact ih0 _ _ _ _ _)
   | (with_reducible exact LeO.refl _)
   | (with_reducible exact LeO.none _)
   | (with_reducible refine LeO.ite ?_ ?_)
   | (with_reducible refine LeO.bind ?_ (fun _ => ?_))
   | exact ih0 _ _ _ _ _
   | exact LeO.none _
   | refine LeO.ite ?_ ?_
   | refine LeO.bind ?_ (fun _ => ?_)
set_option maxHeartbeats 8000000 in
set_option maxRecDepth 100000 in
theorem impl_Scope.calls (k : Nat) (A0 : Option Addr) (c0 : Nat) (l0 : List (S61)) (a1 : Int) (r : List (S61)) (w : World) (hr0 : Kd.C k61 w A0 l0.length l0) (hc0 : l0.length ≤ c0) (h : impl_Scope.f k l0 a1 = some r) :
  Calls Try.prog 56 #[.slice A0 l0.length c0, .int .i64 a1] w fun e w' => ∃ v0_ : Value, e = .returned (v0_) ∧ Kd.S k61 61 w' w.heap.size (fun _ => True) v0_ r ∧ Below w.heap.size w w' := by
 have hu61 := Try.underlying61
 have HR0 := Aside0.mk hr0
 have HC0 := Aside0.mk hc0
 clear hr0 hc0
 have HB := Aside0.mk (Below.refl w.heap.size w)
 have H : (impl_Scope.l0 k a1 ([] : List (S61)) l0 (l0.length : Int) 0) = some r := h
 clear h
 have H' := Aside0.mk H
 clear H
 go_enter Try.func56, Try.ntmps56
 go_wp2
 go_loopg [5, 10] k (fun kq v5 v10 w' => ∃ (x5_1 : List (S61)) (x10_1 : Int), v10 = .int .i64 x10_1 ∧ Aside0 (impl_Scope.l0 kq a1 x5_1 l0 (l0.length : Int) x10_1 = some r) ∧ Aside0 (kq ≤ k) ∧ Aside0 (Kd.S k61 61 w' w.heap.size (fun _ => True) v5 x5_1) ∧ Aside0 (Below w.heap.size w w'))
 case atStart => exact ⟨(([] : List (S61))), (0), (by first | rfl | (simp; done) | (simp [*]; done)), H', ⟨Nat.le_refl _⟩, ⟨by first | exact Kd.S_nil _ _ _ _ _ | exact Kd.N_nil _ _ _ _ _ | exact Kd.V_nil _ _ _ _ _ | exact Kd.Q_nil _ _ _ _ _ | exact Kd.R_nil _ _ _ _ _⟩, ⟨bw_q HB⟩⟩
 case round =>
  clear H'
  try clear p2
  obtain ⟨x5_1, x10_1, rfl, HA, HK1, HO_5, HB⟩ := hrel
  cases gk with
  | zero => exact absurd HA.out (by simp [impl_Scope.l0])
  | succ k1 =>
   have H := HA.out
   clear HA
   simp only [impl_Scope.l0] at H
   by_cases c3 : x10_1 < (l0.length : Int)
   ·rw [if_pos c3] at H
    have c3b0 : decide (x10_1 < (l0.length : Int)) = true := decide_eq_true c3
    clear c3
    by_cases c4 : 0 ≤ x10_1
    ·rw [if_pos c4] at H
     have c4b0 : decide (0 ≤ x10_1) = true := decide_eq_true c4
     clear c4
     by_cases c5 : x10_1 < (l0.length : Int)
     ·rw [if_pos c5] at H
      have c5b0 : decide (x10_1 < (l0.length : Int)) = true := decide_eq_true c5
      clear c5
      by_cases c6 : ((rd_T61 l0 x10_1).f0) = a1
      ·rw [if_pos c6] at H
       have c6b0 : (((rd_T61 l0 x10_1).f0) == a1) = true := beq_iff_eq.mpr c6
       have c6b1 : (((rd_T61 l0 x10_1).f0) != a1) = false := bne_eq_false_iff_eq.mpr c6
       clear c6
       have HC7 := Aside0.mk H
       clear H
       have p1152 : 0 ≤ (x10_1 : Int) := of_decide_eq_true as_q
       have q1152 : x10_1 < (l0.length : Int) := of_decide_eq_true as_q
       obtain ⟨ad1152, A1152_5, c1152_5, e1152, hx1152_0, hx1152_1, hx1152_2, hx1152_3, hx1152_4, hx1152_5, hx1152_6, hx1152_7, hl1152_5, hi1152_5⟩ := at_T61 HR0.out x10_1 p1152 q1152
       cases e1152
       replace hx1152_0 := (HB.out.cell (World.block_lt_of_cell? w _ hx1152_0)).trans hx1152_0
       replace hx1152_1 := (HB.out.cell (World.block_lt_of_cell? w _ hx1152_1)).trans hx1152_1
       replace hx1152_2 := (HB.out.cell (World.block_lt_of_cell? w _ hx1152_2)).trans hx1152_2
       replace hx1152_3 := (HB.out.cell (World.block_lt_of_cell? w _ hx1152_3)).trans hx1152_3
       replace hx1152_4 := (HB.out.cell (World.block_lt_of_cell? w _ hx1152_4)).trans hx1152_4
       replace hx1152_5 := (HB.out.cell (World.block_lt_of_cell? w _ hx1152_5)).trans hx1152_5
       replace hx1152_6 := (HB.out.cell (World.block_lt_of_cell? w _ hx1152_6)).trans hx1152_6
       replace hx1152_7 := (HB.out.cell (World.block_lt_of_cell? w _ hx1152_7)).trans hx1152_7
       have HR1152_5 := Aside0.mk hi1152_5
       have HC1152_5 := Aside0.mk hl1152_5
       clear hi1152_5 hl1152_5
       replace p1152 := eq_true p1152
       replace q1152 := eq_true q1152
       go_upto_if 22 with (first | ((with_reducible refine gate_dst (N := 7) rfl ?_); refine box_q 7 #[.int .i64 0, .int .i64 0, .int .i64 0, .int .i64 0, .int .i64 0, .slice none 0 0, .int .i64 0, .bool false] 61 ?_; intro gb1153 hg w8 hbox hb; replace HO_5 := Aside0.mk (Kd.S_below (Kd.S_elderB (kS_q HO_5) gb1153 (Nat.le_of_eq hg.symm)) hb); have BK1153 := Aside0.mk (hbox); have GW1153 := Aside0.mk ((by rw [hg]; exact (below_size (bw_q HB)) : w.heap.size ≤ gb1153)); have GE1153 := Aside0.mk ((by rw [hg]; exact (below_size (bw_q HB)) : w.heap.size ≤ gb1153)); replace HB := Aside0.mk (below_step (bw_q HB) hb); clear hb hbox hg; have hcz9_0 : w8.cell? ⟨gb1153, 0, none⟩ = some (.int .i64 0) := (blk_cell BK1153.out 0).trans rfl; have hcz9_1 : w8.cell? ⟨gb1153, 1, none⟩ = some (.int .i64 0) := (blk_cell BK1153.out 1).trans rfl; have hcz9_2 : w8.cell? ⟨gb1153, 2, none⟩ = some (.int .i64 0) := (blk_cell BK1153.out 2).trans rfl; have hcz9_3 : w8.cell? ⟨gb1153, 3, none⟩ = some (.int .i64 0) := (blk_cell BK1153.out 3).trans rfl; have hcz9_4 : w8.cell? ⟨gb1153, 4, none⟩ = some (.int .i64 0) := (blk_cell BK1153.out 4).trans rfl; have hcz9_5 : w8.cell? ⟨gb1153, 5, none⟩ = some (.slice none 0 0) := (blk_cell BK1153.out 5).trans rfl; have hcz9_6 : w8.cell? ⟨gb1153, 6, none⟩ = some (.int .i64 0) := (blk_cell BK1153.out 6).trans rfl; have hcz9_7 : w8.cell? ⟨gb1153, 7, none⟩ = some (.bool false) := (blk_cell BK1153.out 7).trans rfl; have hfz9_0 := blk_frozen BK1153.out 0; have hfz9_1 := blk_frozen BK1153.out 1; have hfz9_2 := blk_frozen BK1153.out 2; have hfz9_3 := blk_frozen BK1153.out 3; have hfz9_4 := blk_frozen BK1153.out 4; have hfz9_5 := blk_frozen BK1153.out 5; have hfz9_6 := blk_frozen BK1153.out 6; have hfz9_7 := blk_frozen BK1153.out 7))
       have n0_ : Aside0 (Kd.S k61 61 ((((((((w8.setCell ⟨gb1153, 0, none⟩ (.int .i64 ((rd_T61 l0 x10_1).f0))).setCell ⟨gb1153, 1, none⟩ (.int .i64 ((rd_T61 l0 x10_1).f1))).setCell ⟨gb1153, 2, none⟩ (.int .i64 ((rd_T61 l0 x10_1).f2))).setCell ⟨gb1153, 3, none⟩ (.int .i64 ((rd_T61 l0 x10_1).f3))).setCell ⟨gb1153, 4, none⟩ (.int .i64 ((rd_T61 l0 x10_1).f4))).setCell ⟨gb1153, 5, none⟩ (.slice A1152_5 ((rd_T61 l0 x10_1).f5).length c1152_5)).setCell ⟨gb1153, 6, none⟩ (.int .i64 ((rd_T61 l0 x10_1).f6))).setCell ⟨gb1153, 7, none⟩ (.bool ((rd_T61 l0 x10_1).f7))) w.heap.size (fun k_ => k_ ≠ gb1153) u5 x5_1) := ⟨by (with_reducible repeat (first | apply Kd.S_alloc | apply Kd.S_drewN | apply Kd.S_drew)); exact Kd.S_mono (Kd.S_far (p := ⟨gb1153, 7, none⟩) (Kd.S_far (p := ⟨gb1153, 6, none⟩) (Kd.S_far (p := ⟨gb1153, 5, none⟩) (Kd.S_far (p := ⟨gb1153, 4, none⟩) (Kd.S_far (p := ⟨gb1153, 3, none⟩) (Kd.S_far (p := ⟨gb1153, 2, none⟩) (Kd.S_far (p := ⟨gb1153, 1, none⟩) (Kd.S_far (p := ⟨gb1153, 0, none⟩) (Kd.S_mono HO_5.out (fun k_ hk => (⟨hk, hk.2⟩ : _ ∧ k_ ≠ gb1153))) (fun _ hk => hk.2) (.int .i64 ((rd_T61 l0 x10_1).f0))) (fun _ hk => hk.2) (.int .i64 ((rd_T61 l0 x10_1).f1))) (fun _ hk => hk.2) (.int .i64 ((rd_T61 l0 x10_1).f2))) (fun _ hk => hk.2) (.int .i64 ((rd_T61 l0 x10_1).f3))) (fun _ hk => hk.2) (.int .i64 ((rd_T61 l0 x10_1).f4))) (fun _ hk => hk.2) (.slice A1152_5 ((rd_T61 l0 x10_1).f5).length c1152_5)) (fun _ hk => hk.2) (.int .i64 ((rd_T61 l0 x10_1).f6))) (fun _ hk => hk.2) (.bool ((rd_T61 l0 x10_1).f7))) (fun _ hk => hk.1.2)⟩
       have n1_ : Aside0 (((((((((w8.setCell ⟨gb1153, 0, none⟩ (.int .i64 ((rd_T61 l0 x10_1).f0))).setCell ⟨gb1153, 1, none⟩ (.int .i64 ((rd_T61 l0 x10_1).f1))).setCell ⟨gb1153, 2, none⟩ (.int .i64 ((rd_T61 l0 x10_1).f2))).setCell ⟨gb1153, 3, none⟩ (.int .i64 ((rd_T61 l0 x10_1).f3))).setCell ⟨gb1153, 4, none⟩ (.int .i64 ((rd_T61 l0 x10_1).f4))).setCell ⟨gb1153, 5, none⟩ (.slice A1152_5 ((rd_T61 l0 x10_1).f5).length c1152_5)).setCell ⟨gb1153, 6, none⟩ (.int .i64 ((rd_T61 l0 x10_1).f6))).setCell ⟨gb1153, 7, none⟩ (.bool ((rd_T61 l0 x10_1).f7))).heap[gb1153]? = some (.cells #[.int .i64 ((rd_T61 l0 x10_1).f0), .int .i64 ((rd_T61 l0 x10_1).f1), .int .i64 ((rd_T61 l0 x10_1).f2), .int .i64 ((rd_T61 l0 x10_1).f3), .int .i64 ((rd_T61 l0 x10_1).f4), .slice A1152_5 ((rd_T61 l0 x10_1).f5).length c1152_5, .int .i64 ((rd_T61 l0 x10_1).f6), .bool ((rd_T61 l0 x10_1).f7)] 61 (0, 0))) := ⟨by refine bz_ ?_; refine blk_put (cs := #[.int .i64 ((rd_T61 l0 x10_1).f0), .int .i64 ((rd_T61 l0 x10_1).f1), .int .i64 ((rd_T61 l0 x10_1).f2), .int .i64 ((rd_T61 l0 x10_1).f3), .int .i64 ((rd_T61 l0 x10_1).f4), .slice A1152_5 ((rd_T61 l0 x10_1).f5).length c1152_5, .int .i64 ((rd_T61 l0 x10_1).f6), .bool false]) ?_ 7 _ rfl; refine bz_ ?_; refine blk_put (cs := #[.int .i64 ((rd_T61 l0 x10_1).f0), .int .i64 ((rd_T61 l0 x10_1).f1), .int .i64 ((rd_T61 l0 x10_1).f2), .int .i64 ((rd_T61 l0 x10_1).f3), .int .i64 ((rd_T61 l0 x10_1).f4), .slice A1152_5 ((rd_T61 l0 x10_1).f5).length c1152_5, .int .i64 0, .bool false]) ?_ 6 _ rfl; refine bz_ ?_; refine blk_put (cs := #[.int .i64 ((rd_T61 l0 x10_1).f0), .int .i64 ((rd_T61 l0 x10_1).f1), .int .i64 ((rd_T61 l0 x10_1).f2), .int .i64 ((rd_T61 l0 x10_1).f3), .int .i64 ((rd_T61 l0 x10_1).f4), .slice none 0 0, .int .i64 0, .bool false]) ?_ 5 _ rfl; refine bz_ ?_; refine blk_put (cs := #[.int .i64 ((rd_T61 l0 x10_1).f0), .int .i64 ((rd_T61 l0 x10_1).f1), .int .i64 ((rd_T61 l0 x10_1).f2), .int .i64 ((rd_T61 l0 x10_1).f3), .int .i64 0, .slice none 0 0, .int .i64 0, .bool false]) ?_ 4 _ rfl; refine bz_ ?_; refine blk_put (cs := #[.int .i64 ((rd_T61 l0 x10_1).f0), .int .i64 ((rd_T61 l0 x10_1).f1), .int .i64 ((rd_T61 l0 x10_1).f2), .int .i64 0, .int .i64 0, .slice none 0 0, .int .i64 0, .bool false]) ?_ 3 _ rfl; refine bz_ ?_; refine blk_put (cs := #[.int .i64 ((rd_T61 l0 x10_1).f0), .int .i64 ((rd_T61 l0 x10_1).f1), .int .i64 0, .int .i64 0, .int .i64 0, .slice none 0 0, .int .i64 0, .bool false]) ?_ 2 _ rfl; refine bz_ ?_; refine blk_put (cs := #[.int .i64 ((rd_T61 l0 x10_1).f0), .int .i64 0, .int .i64 0, .int .i64 0, .int .i64 0, .slice none 0 0, .int .i64 0, .bool false]) ?_ 1 _ rfl; refine bz_ ?_; refine blk_put (cs := #[.int .i64 0, .int .i64 0, .int .i64 0, .int .i64 0, .int .i64 0, .slice none 0 0, .int .i64 0, .bool false]) ?_ 0 _ rfl; refine bz_ ?_; exact BK1153.out⟩
       have n2_ : Aside0 (Below w.heap.size w ((((((((w8.setCell ⟨gb1153, 0, none⟩ (.int .i64 ((rd_T61 l0 x10_1).f0))).setCell ⟨gb1153, 1, none⟩ (.int .i64 ((rd_T61 l0 x10_1).f1))).setCell ⟨gb1153, 2, none⟩ (.int .i64 ((rd_T61 l0 x10_1).f2))).setCell ⟨gb1153, 3, none⟩ (.int .i64 ((rd_T61 l0 x10_1).f3))).setCell ⟨gb1153, 4, none⟩ (.int .i64 ((rd_T61 l0 x10_1).f4))).setCell ⟨gb1153, 5, none⟩ (.slice A1152_5 ((rd_T61 l0 x10_1).f5).length c1152_5)).setCell ⟨gb1153, 6, none⟩ (.int .i64 ((rd_T61 l0 x10_1).f6))).setCell ⟨gb1153, 7, none⟩ (.bool ((rd_T61 l0 x10_1).f7)))) := ⟨bw_q HB⟩
       (try clear HO_5)
       (try clear BK1153)
       (try clear HB)
       generalize ((((((((w8.setCell ⟨gb1153, 0, none⟩ (.int .i64 ((rd_T61 l0 x10_1).f0))).setCell ⟨gb1153, 1, none⟩ (.int .i64 ((rd_T61 l0 x10_1).f1))).setCell ⟨gb1153, 2, none⟩ (.int .i64 ((rd_T61 l0 x10_1).f2))).setCell ⟨gb1153, 3, none⟩ (.int .i64 ((rd_T61 l0 x10_1).f3))).setCell ⟨gb1153, 4, none⟩ (.int .i64 ((rd_T61 l0 x10_1).f4))).setCell ⟨gb1153, 5, none⟩ (.slice A1152_5 ((rd_T61 l0 x10_1).f5).length c1152_5)).setCell ⟨gb1153, 6, none⟩ (.int .i64 ((rd_T61 l0 x10_1).f6))).setCell ⟨gb1153, 7, none⟩ (.bool ((rd_T61 l0 x10_1).f7))) = w10 at n0_ n1_ n2_ ⊢
       have HO_5 := n0_
       have BK1153 := n1_
       have HB := n2_
       clear n0_ n1_ n2_
       (try clear hx1152_0); (try clear hx1152_1); (try clear hx1152_2); (try clear hx1152_3); (try clear hx1152_4); (try clear hx1152_5); (try clear hx1152_6); (try clear hx1152_7)
       have H := HC7.out
       clear HC7
       replace H := Option.bind_eq_some_iff.mp H
       obtain ⟨⟨t1154, t1155, t1156, t1157, t1158, t1159, t1162, t1163⟩, A110, H⟩ := H
       replace H : (if x5_1.length < 1759218604441 then (impl_Scope.l0 k1 a1 (x5_1 ++ [(⟨t1154, t1155, t1156, t1157, t1158, t1159, t1162, t1163⟩ : S61)]) l0 (l0.length : Int) (wrap64 (x10_1 + 1))) else (none)) = some r := H
       have A11 := Aside0.mk A110
       clear A110
       by_cases c12 : x5_1.length < 1759218604441
       ·rw [if_pos c12] at H
        have LMc12 := Aside0.mk c12
        clear c12
        obtain ⟨y1164, hy1164⟩ : ∃ y_ : List (S61), y_ = (x5_1 ++ [(⟨t1154, t1155, t1156, t1157, t1158, t1159, t1162, t1163⟩ : S61)]) := ⟨_, rfl⟩
        replace H : (impl_Scope.l0 k1 a1 y1164 l0 (l0.length : Int) (wrap64 (x10_1 + 1))) = some r := by first | (rw [hy1164]; with_reducible exact H) | (have H2_ := (Option.bind_some _ _).symm.trans H; rw [hy1164]; with_reducible exact H2_) | (have H2_ := (Option.bind_some _ _).symm.trans H; with_reducible exact H2_) | with_reducible exact H | (rw [hy1164]; exact H) | exact H
        have Ny1164 := Aside0.mk hy1164
        clear hy1164
        have H' := Aside0.mk H
        clear H
        obtain ⟨hcz13_0, hcz13_1, hcz13_2, hcz13_3, hcz13_4, hcz13_5, hcz13_6, hcz13_7⟩ := cz8_ BK1153
        obtain ⟨hfz13_0, hfz13_1, hfz13_2, hfz13_3, hfz13_4, hfz13_5, hfz13_6, hfz13_7⟩ := fz8_ BK1153
        go_wp2_with (first | ((with_reducible refine gate_callee (f := 108) rfl ?_); refine goesL_ (some 25) rfl rfl Try.func108 (by kernel_rfl) rfl #[.agg #[.int .i64 ((rd_T61 l0 x10_1).f0), .int .i64 ((rd_T61 l0 x10_1).f1), .int .i64 ((rd_T61 l0 x10_1).f2), .int .i64 ((rd_T61 l0 x10_1).f3), .int .i64 ((rd_T61 l0 x10_1).f4), .slice A1152_5 ((rd_T61 l0 x10_1).f5).length c1152_5, .int .i64 ((rd_T61 l0 x10_1).f6), .bool ((rd_T61 l0 x10_1).f7)]] rfl mp_q ?_; (with_reducible refine (impl_copyRecord.calls ((rd_T61 l0 x10_1).f0) ((rd_T61 l0 x10_1).f1) ((rd_T61 l0 x10_1).f2) ((rd_T61 l0 x10_1).f3) ((rd_T61 l0 x10_1).f4) _ _ ((rd_T61 l0 x10_1).f5) ((rd_T61 l0 x10_1).f6) ((rd_T61 l0 x10_1).f7) t1154 t1155 t1156 t1157 t1158 t1159 t1162 t1163 _ ?side1 ?side2 A11.out).mono ?_); (case side1 => exact cs_q (Kd.C_below HR1152_5.out HB.out)); (case side2 => exact HC1152_5.out); rintro e w14 ⟨v1160, rfl, ho0, hb⟩; refine ⟨_, rfl, ?_⟩; have hs_v1160 : (v1160 : Value).oneCell' = true := (by first | (obtain ⟨A_, c_, e_⟩ := Kd.R_slice ho0; simp [e_, Value.oneCell']) | (obtain ⟨A_, c_, e_⟩ := Kd.S_slice ho0; simp [e_, Value.oneCell']) | (obtain ⟨A_, c_, e_⟩ := Kd.N_slice ho0; simp [e_, Value.oneCell']) | (obtain ⟨A_, c_, e_⟩ := Kd.V_slice ho0; simp [e_, Value.oneCell'])); have hst_v1160 := fun (w_ : World) (a_ : Addr) m_ => run_store Try.prog w_ a_ v1160 m_ hs_v1160; replace HO_5 := Aside0.mk (Kd.S_elder' (kS_q HO_5) (Kd.R_base ho0) hb); have HO1161 := Aside0.mk (Kd.R_lower ho0 (below_size (bw_q HB))); replace BK1153 := Aside0.mk (blk_below (g := gb1153) (bk_q BK1153) hb); replace HB := Aside0.mk (below_step (bw_q HB) hb); (try clear hb); (try clear hb2); (try clear hk); (try clear hi); (try clear ho0); obtain ⟨Ao16, co16, eo16⟩ := Kd.R_slice HO1161.out; subst eo16) | ((with_reducible refine gate_builtin (b := .append) (xs := #[.tmp 23, .tmp 26]) rfl ?_); at_builtin; refine Kd.S_append k61 (w0 := w) w.heap.size rfl (.tmp 23) (.tmp 26) 41 61 (.agg #[(.int .i64 0), (.int .i64 0), (.int .i64 0), (.int .i64 0), (.int .i64 0), (.slice none 0 0), (.int .i64 0), (.bool false)]) 80 rfl Try.underlying41 info61 rfl (by decide) (by omega) u5 x5_1 (⟨t1154, t1155, t1156, t1157, t1158, t1159, t1162, t1163⟩ : S61) [.int .i64 t1154, .int .i64 t1155, .int .i64 t1156, .int .i64 t1157, .int .i64 t1158, .slice Ao16 t1159.length co16, .int .i64 t1162, .bool t1163] (fun k_ => k_ ≠ gb1153) (fun k_ => some k_ = (.slice Ao16 t1159.length co16 : Value).ownBlock) rfl rfl ?aP (fun k_ hk_ => ((Kd.R_mono (ok' := fun k_ => ((fun k_ => k_ ≠ gb1153)) k_ ∧ some k_ ≠ (u5 : Value).ownBlock) (Kd.R_types (Kd.R_apart' (HO1161.out) (Kd.S_typed HO_5.out) (by decide)) BK1153.out (by decide)) (fun k_ hk => ⟨hk.2, hk.1.2⟩))).1 k_ hk_.symm) ?aF ?aO ?aB ?aS ?aL ?_; (case aP => exact k61_mkM _ _ _ (⟨t1154, t1155, t1156, t1157, t1158, t1159, t1162, t1163⟩ : S61) (Kd.R_mono (Kd.R_tight rfl (Kd.R_mono (ok' := fun k_ => ((fun k_ => k_ ≠ gb1153)) k_ ∧ some k_ ≠ (u5 : Value).ownBlock) (Kd.R_types (Kd.R_apart' (HO1161.out) (Kd.S_typed HO_5.out) (by decide)) BK1153.out (by decide)) (fun k_ hk => ⟨hk.2, hk.1.2⟩))) (fun _ h_ => h_))); (case aB => exact (bw_q HB)); (case aF => exact (fun k_ hk => Kd.freshB (g := gb1153) (o := .cells #[.int .i64 ((rd_T61 l0 x10_1).f0), .int .i64 ((rd_T61 l0 x10_1).f1), .int .i64 ((rd_T61 l0 x10_1).f2), .int .i64 ((rd_T61 l0 x10_1).f3), .int .i64 ((rd_T61 l0 x10_1).f4), .slice A1152_5 ((rd_T61 l0 x10_1).f5).length c1152_5, .int .i64 ((rd_T61 l0 x10_1).f6), .bool ((rd_T61 l0 x10_1).f7)] 61 (0, 0)) (bk_q BK1153) k_ hk)); (case aO => exact (by (with_reducible repeat (first | apply Kd.S_alloc | apply Kd.S_drewN | apply Kd.S_drew)); exact Kd.S_mono HO_5.out (fun k_ hk => ⟨hk.1, fun e_ => hk.2 e_⟩))); (case aS => exact (below_size (bw_q HB))); (case aL => have := LMc12.out; omega); intro v1165 w15 ho hb hg hat; rw [← Ny1164.out] at ho; replace BK1153 := Aside0.mk (blk_grown (g := gb1153) (o := .cells #[.int .i64 ((rd_T61 l0 x10_1).f0), .int .i64 ((rd_T61 l0 x10_1).f1), .int .i64 ((rd_T61 l0 x10_1).f2), .int .i64 ((rd_T61 l0 x10_1).f3), .int .i64 ((rd_T61 l0 x10_1).f4), .slice A1152_5 ((rd_T61 l0 x10_1).f5).length c1152_5, .int .i64 ((rd_T61 l0 x10_1).f6), .bool ((rd_T61 l0 x10_1).f7)] 61 (0, 0)) (bk_q BK1153) hg (Kd.S_away HO_5.out (fun _ hk => hk.1))); replace HB := Aside0.mk (hb); have HO1166 := Aside0.mk (ho); clear HO_5 HO1161; clear ho hb hg hat))
        go_roundg k1
        case measure => have := HK1.out; omega
        case rel => exact ⟨(y1164), (wrap64 (x10_1 + 1)), (by first | rfl | (simp; done) | (simp [*]; done)), H', ⟨by have := HK1.out; omega⟩, ⟨by (with_reducible repeat (first | apply Kd.S_alloc | apply Kd.S_drewN | apply Kd.S_drew)); exact Kd.S_mono HO1166.out (fun _ hk => trivial)⟩, ⟨bw_q HB⟩⟩
       ·rw [if_neg c12] at H
        exact absurd H (by simp)
      ·rw [if_neg c6] at H
       have c6b0 : (((rd_T61 l0 x10_1).f0) == a1) = false := beq_eq_false_iff_ne.mpr c6
       have c6b1 : (((rd_T61 l0 x10_1).f0) != a1) = true := bne_iff_ne.mpr c6
       have HC17 := Aside0.mk H
       clear H
       have p1152 : 0 ≤ (x10_1 : Int) := of_decide_eq_true as_q
       have q1152 : x10_1 < (l0.length : Int) := of_decide_eq_true as_q
       obtain ⟨ad1152, A1152_5, c1152_5, e1152, hx1152_0, hx1152_1, hx1152_2, hx1152_3, hx1152_4, hx1152_5, hx1152_6, hx1152_7, hl1152_5, hi1152_5⟩ := at_T61 HR0.out x10_1 p1152 q1152
       cases e1152
       replace hx1152_0 := (HB.out.cell (World.block_lt_of_cell? w _ hx1152_0)).trans hx1152_0
       replace hx1152_1 := (HB.out.cell (World.block_lt_of_cell? w _ hx1152_1)).trans hx1152_1
       replace hx1152_2 := (HB.out.cell (World.block_lt_of_cell? w _ hx1152_2)).trans hx1152_2
       replace hx1152_3 := (HB.out.cell (World.block_lt_of_cell? w _ hx1152_3)).trans hx1152_3
       replace hx1152_4 := (HB.out.cell (World.block_lt_of_cell? w _ hx1152_4)).trans hx1152_4
       replace hx1152_5 := (HB.out.cell (World.block_lt_of_cell? w _ hx1152_5)).trans hx1152_5
       replace hx1152_6 := (HB.out.cell (World.block_lt_of_cell? w _ hx1152_6)).trans hx1152_6
       replace hx1152_7 := (HB.out.cell (World.block_lt_of_cell? w _ hx1152_7)).trans hx1152_7
       have HR1152_5 := Aside0.mk hi1152_5
       have HC1152_5 := Aside0.mk hl1152_5
       clear hi1152_5 hl1152_5
       replace p1152 := eq_true p1152
       replace q1152 := eq_true q1152
       go_upto_if 22 with (first | ((with_reducible refine gate_dst (N := 7) rfl ?_); refine box_q 7 #[.int .i64 0, .int .i64 0, .int .i64 0, .int .i64 0, .int .i64 0, .slice none 0 0, .int .i64 0, .bool false] 61 ?_; intro gb1153 hg w18 hbox hb; replace HO_5 := Aside0.mk (Kd.S_below (Kd.S_elderB (kS_q HO_5) gb1153 (Nat.le_of_eq hg.symm)) hb); have BK1153 := Aside0.mk (hbox); have GW1153 := Aside0.mk ((by rw [hg]; exact (below_size (bw_q HB)) : w.heap.size ≤ gb1153)); have GE1153 := Aside0.mk ((by rw [hg]; exact (below_size (bw_q HB)) : w.heap.size ≤ gb1153)); replace HB := Aside0.mk (below_step (bw_q HB) hb); clear hb hbox hg; have hcz19_0 : w18.cell? ⟨gb1153, 0, none⟩ = some (.int .i64 0) := (blk_cell BK1153.out 0).trans rfl; have hcz19_1 : w18.cell? ⟨gb1153, 1, none⟩ = some (.int .i64 0) := (blk_cell BK1153.out 1).trans rfl; have hcz19_2 : w18.cell? ⟨gb1153, 2, none⟩ = some (.int .i64 0) := (blk_cell BK1153.out 2).trans rfl; have hcz19_3 : w18.cell? ⟨gb1153, 3, none⟩ = some (.int .i64 0) := (blk_cell BK1153.out 3).trans rfl; have hcz19_4 : w18.cell? ⟨gb1153, 4, none⟩ = some (.int .i64 0) := (blk_cell BK1153.out 4).trans rfl; have hcz19_5 : w18.cell? ⟨gb1153, 5, none⟩ = some (.slice none 0 0) := (blk_cell BK1153.out 5).trans rfl; have hcz19_6 : w18.cell? ⟨gb1153, 6, none⟩ = some (.int .i64 0) := (blk_cell BK1153.out 6).trans rfl; have hcz19_7 : w18.cell? ⟨gb1153, 7, none⟩ = some (.bool false) := (blk_cell BK1153.out 7).trans rfl; have hfz19_0 := blk_frozen BK1153.out 0; have hfz19_1 := blk_frozen BK1153.out 1; have hfz19_2 := blk_frozen BK1153.out 2; have hfz19_3 := blk_frozen BK1153.out 3; have hfz19_4 := blk_frozen BK1153.out 4; have hfz19_5 := blk_frozen BK1153.out 5; have hfz19_6 := blk_frozen BK1153.out 6; have hfz19_7 := blk_frozen BK1153.out 7))
       have n0_ : Aside0 (Kd.S k61 61 ((((((((w18.setCell ⟨gb1153, 0, none⟩ (.int .i64 ((rd_T61 l0 x10_1).f0))).setCell ⟨gb1153, 1, none⟩ (.int .i64 ((rd_T61 l0 x10_1).f1))).setCell ⟨gb1153, 2, none⟩ (.int .i64 ((rd_T61 l0 x10_1).f2))).setCell ⟨gb1153, 3, none⟩ (.int .i64 ((rd_T61 l0 x10_1).f3))).setCell ⟨gb1153, 4, none⟩ (.int .i64 ((rd_T61 l0 x10_1).f4))).setCell ⟨gb1153, 5, none⟩ (.slice A1152_5 ((rd_T61 l0 x10_1).f5).length c1152_5)).setCell ⟨gb1153, 6, none⟩ (.int .i64 ((rd_T61 l0 x10_1).f6))).setCell ⟨gb1153, 7, none⟩ (.bool ((rd_T61 l0 x10_1).f7))) w.heap.size (fun k_ => k_ ≠ gb1153) u5 x5_1) := ⟨by (with_reducible repeat (first | apply Kd.S_alloc | apply Kd.S_drewN | apply Kd.S_drew)); exact Kd.S_mono (Kd.S_far (p := ⟨gb1153, 7, none⟩) (Kd.S_far (p := ⟨gb1153, 6, none⟩) (Kd.S_far (p := ⟨gb1153, 5, none⟩) (Kd.S_far (p := ⟨gb1153, 4, none⟩) (Kd.S_far (p := ⟨gb1153, 3, none⟩) (Kd.S_far (p := ⟨gb1153, 2, none⟩) (Kd.S_far (p := ⟨gb1153, 1, none⟩) (Kd.S_far (p := ⟨gb1153, 0, none⟩) (Kd.S_mono HO_5.out (fun k_ hk => (⟨hk, hk.2⟩ : _ ∧ k_ ≠ gb1153))) (fun _ hk => hk.2) (.int .i64 ((rd_T61 l0 x10_1).f0))) (fun _ hk => hk.2) (.int .i64 ((rd_T61 l0 x10_1).f1))) (fun _ hk => hk.2) (.int .i64 ((rd_T61 l0 x10_1).f2))) (fun _ hk => hk.2) (.int .i64 ((rd_T61 l0 x10_1).f3))) (fun _ hk => hk.2) (.int .i64 ((rd_T61 l0 x10_1).f4))) (fun _ hk => hk.2) (.slice A1152_5 ((rd_T61 l0 x10_1).f5).length c1152_5)) (fun _ hk => hk.2) (.int .i64 ((rd_T61 l0 x10_1).f6))) (fun _ hk => hk.2) (.bool ((rd_T61 l0 x10_1).f7))) (fun _ hk => hk.1.2)⟩
       have n1_ : Aside0 (((((((((w18.setCell ⟨gb1153, 0, none⟩ (.int .i64 ((rd_T61 l0 x10_1).f0))).setCell ⟨gb1153, 1, none⟩ (.int .i64 ((rd_T61 l0 x10_1).f1))).setCell ⟨gb1153, 2, none⟩ (.int .i64 ((rd_T61 l0 x10_1).f2))).setCell ⟨gb1153, 3, none⟩ (.int .i64 ((rd_T61 l0 x10_1).f3))).setCell ⟨gb1153, 4, none⟩ (.int .i64 ((rd_T61 l0 x10_1).f4))).setCell ⟨gb1153, 5, none⟩ (.slice A1152_5 ((rd_T61 l0 x10_1).f5).length c1152_5)).setCell ⟨gb1153, 6, none⟩ (.int .i64 ((rd_T61 l0 x10_1).f6))).setCell ⟨gb1153, 7, none⟩ (.bool ((rd_T61 l0 x10_1).f7))).heap[gb1153]? = some (.cells #[.int .i64 ((rd_T61 l0 x10_1).f0), .int .i64 ((rd_T61 l0 x10_1).f1), .int .i64 ((rd_T61 l0 x10_1).f2), .int .i64 ((rd_T61 l0 x10_1).f3), .int .i64 ((rd_T61 l0 x10_1).f4), .slice A1152_5 ((rd_T61 l0 x10_1).f5).length c1152_5, .int .i64 ((rd_T61 l0 x10_1).f6), .bool ((rd_T61 l0 x10_1).f7)] 61 (0, 0))) := ⟨by refine bz_ ?_; refine blk_put (cs := #[.int .i64 ((rd_T61 l0 x10_1).f0), .int .i64 ((rd_T61 l0 x10_1).f1), .int .i64 ((rd_T61 l0 x10_1).f2), .int .i64 ((rd_T61 l0 x10_1).f3), .int .i64 ((rd_T61 l0 x10_1).f4), .slice A1152_5 ((rd_T61 l0 x10_1).f5).length c1152_5, .int .i64 ((rd_T61 l0 x10_1).f6), .bool false]) ?_ 7 _ rfl; refine bz_ ?_; refine blk_put (cs := #[.int .i64 ((rd_T61 l0 x10_1).f0), .int .i64 ((rd_T61 l0 x10_1).f1), .int .i64 ((rd_T61 l0 x10_1).f2), .int .i64 ((rd_T61 l0 x10_1).f3), .int .i64 ((rd_T61 l0 x10_1).f4), .slice A1152_5 ((rd_T61 l0 x10_1).f5).length c1152_5, .int .i64 0, .bool false]) ?_ 6 _ rfl; refine bz_ ?_; refine blk_put (cs := #[.int .i64 ((rd_T61 l0 x10_1).f0), .int .i64 ((rd_T61 l0 x10_1).f1), .int .i64 ((rd_T61 l0 x10_1).f2), .int .i64 ((rd_T61 l0 x10_1).f3), .int .i64 ((rd_T61 l0 x10_1).f4), .slice none 0 0, .int .i64 0, .bool false]) ?_ 5 _ rfl; refine bz_ ?_; refine blk_put (cs := #[.int .i64 ((rd_T61 l0 x10_1).f0), .int .i64 ((rd_T61 l0 x10_1).f1), .int .i64 ((rd_T61 l0 x10_1).f2), .int .i64 ((rd_T61 l0 x10_1).f3), .int .i64 0, .slice none 0 0, .int .i64 0, .bool false]) ?_ 4 _ rfl; refine bz_ ?_; refine blk_put (cs := #[.int .i64 ((rd_T61 l0 x10_1).f0), .int .i64 ((rd_T61 l0 x10_1).f1), .int .i64 ((rd_T61 l0 x10_1).f2), .int .i64 0, .int .i64 0, .slice none 0 0, .int .i64 0, .bool false]) ?_ 3 _ rfl; refine bz_ ?_; refine blk_put (cs := #[.int .i64 ((rd_T61 l0 x10_1).f0), .int .i64 ((rd_T61 l0 x10_1).f1), .int .i64 0, .int .i64 0, .int .i64 0, .slice none 0 0, .int .i64 0, .bool false]) ?_ 2 _ rfl; refine bz_ ?_; refine blk_put (cs := #[.int .i64 ((rd_T61 l0 x10_1).f0), .int .i64 0, .int .i64 0, .int .i64 0, .int .i64 0, .slice none 0 0, .int .i64 0, .bool false]) ?_ 1 _ rfl; refine bz_ ?_; refine blk_put (cs := #[.int .i64 0, .int .i64 0, .int .i64 0, .int .i64 0, .int .i64 0, .slice none 0 0, .int .i64 0, .bool false]) ?_ 0 _ rfl; refine bz_ ?_; exact BK1153.out⟩
       have n2_ : Aside0 (Below w.heap.size w ((((((((w18.setCell ⟨gb1153, 0, none⟩ (.int .i64 ((rd_T61 l0 x10_1).f0))).setCell ⟨gb1153, 1, none⟩ (.int .i64 ((rd_T61 l0 x10_1).f1))).setCell ⟨gb1153, 2, none⟩ (.int .i64 ((rd_T61 l0 x10_1).f2))).setCell ⟨gb1153, 3, none⟩ (.int .i64 ((rd_T61 l0 x10_1).f3))).setCell ⟨gb1153, 4, none⟩ (.int .i64 ((rd_T61 l0 x10_1).f4))).setCell ⟨gb1153, 5, none⟩ (.slice A1152_5 ((rd_T61 l0 x10_1).f5).length c1152_5)).setCell ⟨gb1153, 6, none⟩ (.int .i64 ((rd_T61 l0 x10_1).f6))).setCell ⟨gb1153, 7, none⟩ (.bool ((rd_T61 l0 x10_1).f7)))) := ⟨bw_q HB⟩
       (try clear HO_5)
       (try clear BK1153)
       (try clear HB)
       generalize ((((((((w18.setCell ⟨gb1153, 0, none⟩ (.int .i64 ((rd_T61 l0 x10_1).f0))).setCell ⟨gb1153, 1, none⟩ (.int .i64 ((rd_T61 l0 x10_1).f1))).setCell ⟨gb1153, 2, none⟩ (.int .i64 ((rd_T61 l0 x10_1).f2))).setCell ⟨gb1153, 3, none⟩ (.int .i64 ((rd_T61 l0 x10_1).f3))).setCell ⟨gb1153, 4, none⟩ (.int .i64 ((rd_T61 l0 x10_1).f4))).setCell ⟨gb1153, 5, none⟩ (.slice A1152_5 ((rd_T61 l0 x10_1).f5).length c1152_5)).setCell ⟨gb1153, 6, none⟩ (.int .i64 ((rd_T61 l0 x10_1).f6))).setCell ⟨gb1153, 7, none⟩ (.bool ((rd_T61 l0 x10_1).f7))) = w20 at n0_ n1_ n2_ ⊢
       have HO_5 := n0_
       have BK1153 := n1_
       have HB := n2_
       clear n0_ n1_ n2_
       (try clear hx1152_0); (try clear hx1152_1); (try clear hx1152_2); (try clear hx1152_3); (try clear hx1152_4); (try clear hx1152_5); (try clear hx1152_6); (try clear hx1152_7)
       have H := HC17.out
       clear HC17
       by_cases c21 : ((rd_T61 l0 x10_1).f0) = 9
       ·rw [if_pos c21] at H
        have c21b0 : (((rd_T61 l0 x10_1).f0) == 9) = true := beq_iff_eq.mpr c21
        have c21b1 : (((rd_T61 l0 x10_1).f0) != 9) = false := bne_eq_false_iff_eq.mpr c21
        clear c21
        (first | rw [c21b0] | rw [c21b1] | (simp only [i64_w, i32_w]; first | rw [c21b0] | rw [c21b1]) | skip)
        replace H := Option.bind_eq_some_iff.mp H
        obtain ⟨⟨t1167, t1168, t1169, t1170, t1171, t1172, t1175, t1176⟩, A220, H⟩ := H
        replace H : (if x5_1.length < 1759218604441 then (impl_Scope.l0 k1 a1 (x5_1 ++ [(⟨t1167, t1168, t1169, t1170, t1171, t1172, t1175, t1176⟩ : S61)]) l0 (l0.length : Int) (wrap64 (x10_1 + 1))) else (none)) = some r := H
        have A22 := Aside0.mk A220
        clear A220
        by_cases c23 : x5_1.length < 1759218604441
        ·rw [if_pos c23] at H
         have LMc23 := Aside0.mk c23
         clear c23
         obtain ⟨y1177, hy1177⟩ : ∃ y_ : List (S61), y_ = (x5_1 ++ [(⟨t1167, t1168, t1169, t1170, t1171, t1172, t1175, t1176⟩ : S61)]) := ⟨_, rfl⟩
         replace H : (impl_Scope.l0 k1 a1 y1177 l0 (l0.length : Int) (wrap64 (x10_1 + 1))) = some r := by first | (rw [hy1177]; with_reducible exact H) | (have H2_ := (Option.bind_some _ _).symm.trans H; rw [hy1177]; with_reducible exact H2_) | (have H2_ := (Option.bind_some _ _).symm.trans H; with_reducible exact H2_) | with_reducible exact H | (rw [hy1177]; exact H) | exact H
         have Ny1177 := Aside0.mk hy1177
         clear hy1177
         have H' := Aside0.mk H
         clear H
         obtain ⟨hcz24_0, hcz24_1, hcz24_2, hcz24_3, hcz24_4, hcz24_5, hcz24_6, hcz24_7⟩ := cz8_ BK1153
         obtain ⟨hfz24_0, hfz24_1, hfz24_2, hfz24_3, hfz24_4, hfz24_5, hfz24_6, hfz24_7⟩ := fz8_ BK1153
         go_wp2_with (first | ((with_reducible refine gate_callee (f := 108) rfl ?_); refine goesL_ (some 25) rfl rfl Try.func108 (by kernel_rfl) rfl #[.agg #[.int .i64 ((rd_T61 l0 x10_1).f0), .int .i64 ((rd_T61 l0 x10_1).f1), .int .i64 ((rd_T61 l0 x10_1).f2), .int .i64 ((rd_T61 l0 x10_1).f3), .int .i64 ((rd_T61 l0 x10_1).f4), .slice A1152_5 ((rd_T61 l0 x10_1).f5).length c1152_5, .int .i64 ((rd_T61 l0 x10_1).f6), .bool ((rd_T61 l0 x10_1).f7)]] rfl mp_q ?_; (with_reducible refine (impl_copyRecord.calls ((rd_T61 l0 x10_1).f0) ((rd_T61 l0 x10_1).f1) ((rd_T61 l0 x10_1).f2) ((rd_T61 l0 x10_1).f3) ((rd_T61 l0 x10_1).f4) _ _ ((rd_T61 l0 x10_1).f5) ((rd_T61 l0 x10_1).f6) ((rd_T61 l0 x10_1).f7) t1167 t1168 t1169 t1170 t1171 t1172 t1175 t1176 _ ?side1 ?side2 A22.out).mono ?_); (case side1 => exact cs_q (Kd.C_below HR1152_5.out HB.out)); (case side2 => exact HC1152_5.out); rintro e w25 ⟨v1173, rfl, ho0, hb⟩; refine ⟨_, rfl, ?_⟩; have hs_v1173 : (v1173 : Value).oneCell' = true := (by first | (obtain ⟨A_, c_, e_⟩ := Kd.R_slice ho0; simp [e_, Value.oneCell']) | (obtain ⟨A_, c_, e_⟩ := Kd.S_slice ho0; simp [e_, Value.oneCell']) | (obtain ⟨A_, c_, e_⟩ := Kd.N_slice ho0; simp [e_, Value.oneCell']) | (obtain ⟨A_, c_, e_⟩ := Kd.V_slice ho0; simp [e_, Value.oneCell'])); have hst_v1173 := fun (w_ : World) (a_ : Addr) m_ => run_store Try.prog w_ a_ v1173 m_ hs_v1173; replace HO_5 := Aside0.mk (Kd.S_elder' (kS_q HO_5) (Kd.R_base ho0) hb); have HO1174 := Aside0.mk (Kd.R_lower ho0 (below_size (bw_q HB))); replace BK1153 := Aside0.mk (blk_below (g := gb1153) (bk_q BK1153) hb); replace HB := Aside0.mk (below_step (bw_q HB) hb); (try clear hb); (try clear hb2); (try clear hk); (try clear hi); (try clear ho0); obtain ⟨Ao27, co27, eo27⟩ := Kd.R_slice HO1174.out; subst eo27) | ((with_reducible refine gate_builtin (b := .append) (xs := #[.tmp 23, .tmp 26]) rfl ?_); at_builtin; refine Kd.S_append k61 (w0 := w) w.heap.size rfl (.tmp 23) (.tmp 26) 41 61 (.agg #[(.int .i64 0), (.int .i64 0), (.int .i64 0), (.int .i64 0), (.int .i64 0), (.slice none 0 0), (.int .i64 0), (.bool false)]) 80 rfl Try.underlying41 info61 rfl (by decide) (by omega) u5 x5_1 (⟨t1167, t1168, t1169, t1170, t1171, t1172, t1175, t1176⟩ : S61) [.int .i64 t1167, .int .i64 t1168, .int .i64 t1169, .int .i64 t1170, .int .i64 t1171, .slice Ao27 t1172.length co27, .int .i64 t1175, .bool t1176] (fun k_ => k_ ≠ gb1153) (fun k_ => some k_ = (.slice Ao27 t1172.length co27 : Value).ownBlock) rfl rfl ?aP (fun k_ hk_ => ((Kd.R_mono (ok' := fun k_ => ((fun k_ => k_ ≠ gb1153)) k_ ∧ some k_ ≠ (u5 : Value).ownBlock) (Kd.R_types (Kd.R_apart' (HO1174.out) (Kd.S_typed HO_5.out) (by decide)) BK1153.out (by decide)) (fun k_ hk => ⟨hk.2, hk.1.2⟩))).1 k_ hk_.symm) ?aF ?aO ?aB ?aS ?aL ?_; (case aP => exact k61_mkM _ _ _ (⟨t1167, t1168, t1169, t1170, t1171, t1172, t1175, t1176⟩ : S61) (Kd.R_mono (Kd.R_tight rfl (Kd.R_mono (ok' := fun k_ => ((fun k_ => k_ ≠ gb1153)) k_ ∧ some k_ ≠ (u5 : Value).ownBlock) (Kd.R_types (Kd.R_apart' (HO1174.out) (Kd.S_typed HO_5.out) (by decide)) BK1153.out (by decide)) (fun k_ hk => ⟨hk.2, hk.1.2⟩))) (fun _ h_ => h_))); (case aB => exact (bw_q HB)); (case aF => exact (fun k_ hk => Kd.freshB (g := gb1153) (o := .cells #[.int .i64 ((rd_T61 l0 x10_1).f0), .int .i64 ((rd_T61 l0 x10_1).f1), .int .i64 ((rd_T61 l0 x10_1).f2), .int .i64 ((rd_T61 l0 x10_1).f3), .int .i64 ((rd_T61 l0 x10_1).f4), .slice A1152_5 ((rd_T61 l0 x10_1).f5).length c1152_5, .int .i64 ((rd_T61 l0 x10_1).f6), .bool ((rd_T61 l0 x10_1).f7)] 61 (0, 0)) (bk_q BK1153) k_ hk)); (case aO => exact (by (with_reducible repeat (first | apply Kd.S_alloc | apply Kd.S_drewN | apply Kd.S_drew)); exact Kd.S_mono HO_5.out (fun k_ hk => ⟨hk.1, fun e_ => hk.2 e_⟩))); (case aS => exact (below_size (bw_q HB))); (case aL => have := LMc23.out; omega); intro v1178 w26 ho hb hg hat; rw [← Ny1177.out] at ho; replace BK1153 := Aside0.mk (blk_grown (g := gb1153) (o := .cells #[.int .i64 ((rd_T61 l0 x10_1).f0), .int .i64 ((rd_T61 l0 x10_1).f1), .int .i64 ((rd_T61 l0 x10_1).f2), .int .i64 ((rd_T61 l0 x10_1).f3), .int .i64 ((rd_T61 l0 x10_1).f4), .slice A1152_5 ((rd_T61 l0 x10_1).f5).length c1152_5, .int .i64 ((rd_T61 l0 x10_1).f6), .bool ((rd_T61 l0 x10_1).f7)] 61 (0, 0)) (bk_q BK1153) hg (Kd.S_away HO_5.out (fun _ hk => hk.1))); replace HB := Aside0.mk (hb); have HO1179 := Aside0.mk (ho); clear HO_5 HO1174; clear ho hb hg hat))
         go_roundg k1
         case measure => have := HK1.out; omega
         case rel => exact ⟨(y1177), (wrap64 (x10_1 + 1)), (by first | rfl | (simp; done) | (simp [*]; done)), H', ⟨by have := HK1.out; omega⟩, ⟨by (with_reducible repeat (first | apply Kd.S_alloc | apply Kd.S_drewN | apply Kd.S_drew)); exact Kd.S_mono HO1179.out (fun _ hk => trivial)⟩, ⟨bw_q HB⟩⟩
        ·rw [if_neg c23] at H
         exact absurd H (by simp)
       ·rw [if_neg c21] at H
        have c21b0 : (((rd_T61 l0 x10_1).f0) == 9) = false := beq_eq_false_iff_ne.mpr c21
        have c21b1 : (((rd_T61 l0 x10_1).f0) != 9) = true := bne_iff_ne.mpr c21
        (first | rw [c21b0] | rw [c21b1] | (simp only [i64_w, i32_w]; first | rw [c21b0] | rw [c21b1]) | skip)
        have H' := Aside0.mk H
        clear H
        go_wp2
        go_roundg k1
        case measure => have := HK1.out; omega
        case rel => exact ⟨(x5_1), (wrap64 (x10_1 + 1)), (by first | rfl | (simp; done) | (simp [*]; done)), H', ⟨by have := HK1.out; omega⟩, ⟨by (with_reducible repeat (first | apply Kd.S_alloc | apply Kd.S_drewN | apply Kd.S_drew)); exact Kd.S_mono HO_5.out (fun _ hk => trivial)⟩, ⟨bw_q HB⟩⟩
     ·rw [if_neg c5] at H
      exact absurd H (by simp)
    ·rw [if_neg c4] at H
     exact absurd H (by simp)
   ·rw [if_neg c3] at H
    have c3b0 : decide (x10_1 < (l0.length : Int)) = false := decide_eq_false c3
    clear c3
    obtain rfl := Option.some.inj H
    go_wp2
    go_ret
    exact ⟨_, er_q, by (with_reducible repeat (first | apply Kd.S_alloc | apply Kd.S_drewN | apply Kd.S_drew)); exact HO_5.out, bw_q HB⟩

end Go.Proofs.Ythjmdiggglkeaaa.Q

/- A Go function as a Lean function, and its contract: for every input the Go code comes to what the Lean function tells. -/

namespace Go.Proofs.Ythjmdiggglkeaaa.Q
open Go.RowKit Go.Proofs.YthjmdiggglkeaaaW.PrintWords Go.Proofs.YthjmdiggglkeaaaW.PrintLast Go.Proofs.YthjmdiggglkeaaaW.PrintMore
attribute [local go_sem] max2_int min2_int max_two min_two max_three min_three max_four min_four   -- for this text's walks alone
set_option linter.unusedVariables false
set_option linter.unusedSimpArgs false

/-! ### laws_big: function 47 -/
def laws_big.f (l0 : List Int) : Option (Bool) := some (decide ((l0.length : Int) > 1048576))
set_option maxHeartbeats 8000000 in
set_option maxRecDepth 100000 in
theorem laws_big.calls (A0 : Option Addr) (c0 : Nat) (l0 : List Int) (r : Bool) (w : World) (hr0 : Kd.C (Kd.int .u8) w A0 l0.length l0) (hc0 : l0.length ≤ c0) (h : laws_big.f l0 = some r) :
  Calls Try.prog 47 #[.slice A0 l0.length c0] w fun e w' => e = .returned (.bool r) ∧ Drawn0 w w' := by
 have HR0 := Aside0.mk hr0
 have HC0 := Aside0.mk hc0
 clear hr0 hc0
 have H : (some (decide ((l0.length : Int) > 1048576))) = some r := h
 clear h
 obtain rfl := Option.some.inj H
 go_enter Try.func47, Try.ntmps47
 go_wp2
 go_ret
 exact ⟨by first | rfl | (simp; done) | (simp [*]; done), by repeat (first | exact Drawn0.refl _ | apply Drawn0.step)⟩

end Go.Proofs.Ythjmdiggglkeaaa.Q

/- A Go function as a Lean function, and its contract: for every input the Go code comes to what the Lean function tells. -/

namespace Go.Proofs.Ythjmdiggglkeaaa.Q
open Go.RowKit Go.Proofs.YthjmdiggglkeaaaW.PrintWords Go.Proofs.YthjmdiggglkeaaaW.PrintLast Go.Proofs.YthjmdiggglkeaaaW.PrintMore
attribute [local go_sem] max2_int min2_int max_two min_two max_three min_three max_four min_four   -- for this text's walks alone
set_option linter.unusedVariables false
set_option linter.unusedSimpArgs false

/-! ### spec_SameKey: function 52 -/
def spec_SameKey.f (a0_0 : Int) (a0_1 : Int) (a0_2 : Int) (a0_3 : Int) (a0_4 : Int) (l0_5 : List (S127)) (a0_6 : Int) (a0_7 : Bool) (a1_0 : Int) (a1_1 : Int) (a1_2 : Int) (a1_3 : Int) (a1_4 : Int) (l1_5 : List (S127)) (a1_6 : Int) (a1_7 : Bool) : Option (Bool) := if a0_0 = a1_0 then (if a0_1 = a1_1 then (if a0_2 = a1_2 then (some (a0_3 == a1_3)) else (some false)) else (some false)) else (some false)
set_option maxHeartbeats 8000000 in
set_option maxRecDepth 100000 in
theorem spec_SameKey.calls (a0_0 : Int) (a0_1 : Int) (a0_2 : Int) (a0_3 : Int) (a0_4 : Int) (A0_5 : Option Addr) (c0_5 : Nat) (l0_5 : List (S127)) (a0_6 : Int) (a0_7 : Bool) (a1_0 : Int) (a1_1 : Int) (a1_2 : Int) (a1_3 : Int) (a1_4 : Int) (A1_5 : Option Addr) (c1_5 : Nat) (l1_5 : List (S127)) (a1_6 : Int) (a1_7 : Bool) (r : Bool) (w : World) (hr0_5 : Kd.C k127 w A0_5 l0_5.length l0_5) (hc0_5 : l0_5.length ≤ c0_5) (hr1_5 : Kd.C k127 w A1_5 l1_5.length l1_5) (hc1_5 : l1_5.length ≤ c1_5) (h : spec_SameKey.f a0_0 a0_1 a0_2 a0_3 a0_4 l0_5 a0_6 a0_7 a1_0 a1_1 a1_2 a1_3 a1_4 l1_5 a1_6 a1_7 = some r) :
  Calls Try.prog 52 #[.agg #[.int .i64 a0_0, .int .i64 a0_1, .int .i64 a0_2, .int .i64 a0_3, .int .i64 a0_4, .slice A0_5 l0_5.length c0_5, .int .i64 a0_6, .bool a0_7], .agg #[.int .i64 a1_0, .int .i64 a1_1, .int .i64 a1_2, .int .i64 a1_3, .int .i64 a1_4, .slice A1_5 l1_5.length c1_5, .int .i64 a1_6, .bool a1_7]] w fun e w' => e = .returned (.bool r) ∧ Below w.heap.size w w' := by
 have hu61 := Try.underlying61
 have HR0_5 := Aside0.mk hr0_5
 have HC0_5 := Aside0.mk hc0_5
 clear hr0_5 hc0_5
 have HR1_5 := Aside0.mk hr1_5
 have HC1_5 := Aside0.mk hc1_5
 clear hr1_5 hc1_5
 have HB := Aside0.mk (Below.refl w.heap.size w)
 have H : (if a0_0 = a1_0 then (if a0_1 = a1_1 then (if a0_2 = a1_2 then (some (a0_3 == a1_3)) else (some false)) else (some false)) else (some false)) = some r := h
 clear h
 by_cases c3 : a0_0 = a1_0
 ·rw [if_pos c3] at H
  have c3b0 : (a0_0 == a1_0) = true := beq_iff_eq.mpr c3
  have c3b1 : (a0_0 != a1_0) = false := bne_eq_false_iff_eq.mpr c3
  clear c3
  by_cases c4 : a0_1 = a1_1
  ·rw [if_pos c4] at H
   have c4b0 : (a0_1 == a1_1) = true := beq_iff_eq.mpr c4
   have c4b1 : (a0_1 != a1_1) = false := bne_eq_false_iff_eq.mpr c4
   clear c4
   by_cases c5 : a0_2 = a1_2
   ·rw [if_pos c5] at H
    have c5b0 : (a0_2 == a1_2) = true := beq_iff_eq.mpr c5
    have c5b1 : (a0_2 != a1_2) = false := bne_eq_false_iff_eq.mpr c5
    clear c5
    obtain rfl := Option.some.inj H
    go_enter Try.func52, Try.ntmps52
    go_wp2_with (first | ((with_reducible refine gate_dst (N := 2) rfl ?_); refine box_q 2 #[.int .i64 a0_0, .int .i64 a0_1, .int .i64 a0_2, .int .i64 a0_3, .int .i64 a0_4, .slice A0_5 l0_5.length c0_5, .int .i64 a0_6, .bool a0_7] 61 ?_; intro gb479 hg w6 hbox hb; have BK479 := Aside0.mk (hbox); have GW479 := Aside0.mk ((by rw [hg]; exact (below_size (bw_q HB)) : w.heap.size ≤ gb479)); have GE479 := Aside0.mk ((by rw [hg]; exact (below_size (bw_q HB)) : w.heap.size ≤ gb479)); replace HB := Aside0.mk (below_step (bw_q HB) hb); clear hb hbox hg) | ((with_reducible refine gate_dst (N := 3) rfl ?_); refine box_q 3 #[.int .i64 a1_0, .int .i64 a1_1, .int .i64 a1_2, .int .i64 a1_3, .int .i64 a1_4, .slice A1_5 l1_5.length c1_5, .int .i64 a1_6, .bool a1_7] 61 ?_; intro gb480 hg w7 hbox hb; have BK480 := Aside0.mk (hbox); have GW480 := Aside0.mk ((by rw [hg]; exact (below_size (bw_q HB)) : w.heap.size ≤ gb480)); have GE480 := Aside0.mk ((by rw [hg]; exact (below_size (bw_q HB)) : w.heap.size ≤ gb480)); replace HB := Aside0.mk (below_step (bw_q HB) hb); have NB479_480 := Aside0.mk ((by rw [hg]; exact Nat.ne_of_lt (blk_lt (g := gb479) (o := .cells #[.int .i64 a0_0, .int .i64 a0_1, .int .i64 a0_2, .int .i64 a0_3, .int .i64 a0_4, .slice A0_5 l0_5.length c0_5, .int .i64 a0_6, .bool a0_7] 61 (0, 0)) (bk_q BK479)) : gb479 ≠ gb480)); have NB480_479 := Aside0.mk ((by rw [hg]; exact Nat.ne_of_gt (blk_lt (g := gb479) (o := .cells #[.int .i64 a0_0, .int .i64 a0_1, .int .i64 a0_2, .int .i64 a0_3, .int .i64 a0_4, .slice A0_5 l0_5.length c0_5, .int .i64 a0_6, .bool a0_7] 61 (0, 0)) (bk_q BK479)) : gb480 ≠ gb479)); replace BK479 := Aside0.mk (blk_below (g := gb479) (bk_q BK479) hb); clear hb hbox hg; have hnb8 := NB479_480.out; have hnc8 := NB480_479.out; have hcz9_0 : w7.cell? ⟨gb479, 0, none⟩ = some (.int .i64 a0_0) := (blk_cell BK479.out 0).trans rfl; have hcz9_1 : w7.cell? ⟨gb479, 1, none⟩ = some (.int .i64 a0_1) := (blk_cell BK479.out 1).trans rfl; have hcz9_2 : w7.cell? ⟨gb479, 2, none⟩ = some (.int .i64 a0_2) := (blk_cell BK479.out 2).trans rfl; have hcz9_3 : w7.cell? ⟨gb479, 3, none⟩ = some (.int .i64 a0_3) := (blk_cell BK479.out 3).trans rfl; have hcz9_4 : w7.cell? ⟨gb479, 4, none⟩ = some (.int .i64 a0_4) := (blk_cell BK479.out 4).trans rfl; have hcz9_5 : w7.cell? ⟨gb479, 5, none⟩ = some (.slice A0_5 l0_5.length c0_5) := (blk_cell BK479.out 5).trans rfl; have hcz9_6 : w7.cell? ⟨gb479, 6, none⟩ = some (.int .i64 a0_6) := (blk_cell BK479.out 6).trans rfl; have hcz9_7 : w7.cell? ⟨gb479, 7, none⟩ = some (.bool a0_7) := (blk_cell BK479.out 7).trans rfl; have hfz9_0 := blk_frozen BK479.out 0; have hfz9_1 := blk_frozen BK479.out 1; have hfz9_2 := blk_frozen BK479.out 2; have hfz9_3 := blk_frozen BK479.out 3; have hfz9_4 := blk_frozen BK479.out 4; have hfz9_5 := blk_frozen BK479.out 5; have hfz9_6 := blk_frozen BK479.out 6; have hfz9_7 := blk_frozen BK479.out 7; have hcz10_0 : w7.cell? ⟨gb480, 0, none⟩ = some (.int .i64 a1_0) := (blk_cell BK480.out 0).trans rfl; have hcz10_1 : w7.cell? ⟨gb480, 1, none⟩ = some (.int .i64 a1_1) := (blk_cell BK480.out 1).trans rfl; have hcz10_2 : w7.cell? ⟨gb480, 2, none⟩ = some (.int .i64 a1_2) := (blk_cell BK480.out 2).trans rfl; have hcz10_3 : w7.cell? ⟨gb480, 3, none⟩ = some (.int .i64 a1_3) := (blk_cell BK480.out 3).trans rfl; have hcz10_4 : w7.cell? ⟨gb480, 4, none⟩ = some (.int .i64 a1_4) := (blk_cell BK480.out 4).trans rfl; have hcz10_5 : w7.cell? ⟨gb480, 5, none⟩ = some (.slice A1_5 l1_5.length c1_5) := (blk_cell BK480.out 5).trans rfl; have hcz10_6 : w7.cell? ⟨gb480, 6, none⟩ = some (.int .i64 a1_6) := (blk_cell BK480.out 6).trans rfl; have hcz10_7 : w7.cell? ⟨gb480, 7, none⟩ = some (.bool a1_7) := (blk_cell BK480.out 7).trans rfl; have hfz10_0 := blk_frozen BK480.out 0; have hfz10_1 := blk_frozen BK480.out 1; have hfz10_2 := blk_frozen BK480.out 2; have hfz10_3 := blk_frozen BK480.out 3; have hfz10_4 := blk_frozen BK480.out 4; have hfz10_5 := blk_frozen BK480.out 5; have hfz10_6 := blk_frozen BK480.out 6; have hfz10_7 := blk_frozen BK480.out 7))
    go_ret
    exact ⟨er_q, bw_q HB⟩
   ·rw [if_neg c5] at H
    have c5b0 : (a0_2 == a1_2) = false := beq_eq_false_iff_ne.mpr c5
    have c5b1 : (a0_2 != a1_2) = true := bne_iff_ne.mpr c5
    obtain rfl := Option.some.inj H
    go_enter Try.func52, Try.ntmps52
    go_wp2_with (first | ((with_reducible refine gate_dst (N := 2) rfl ?_); refine box_q 2 #[.int .i64 a0_0, .int .i64 a0_1, .int .i64 a0_2, .int .i64 a0_3, .int .i64 a0_4, .slice A0_5 l0_5.length c0_5, .int .i64 a0_6, .bool a0_7] 61 ?_; intro gb479 hg w11 hbox hb; have BK479 := Aside0.mk (hbox); have GW479 := Aside0.mk ((by rw [hg]; exact (below_size (bw_q HB)) : w.heap.size ≤ gb479)); have GE479 := Aside0.mk ((by rw [hg]; exact (below_size (bw_q HB)) : w.heap.size ≤ gb479)); replace HB := Aside0.mk (below_step (bw_q HB) hb); clear hb hbox hg) | ((with_reducible refine gate_dst (N := 3) rfl ?_); refine box_q 3 #[.int .i64 a1_0, .int .i64 a1_1, .int .i64 a1_2, .int .i64 a1_3, .int .i64 a1_4, .slice A1_5 l1_5.length c1_5, .int .i64 a1_6, .bool a1_7] 61 ?_; intro gb480 hg w12 hbox hb; have BK480 := Aside0.mk (hbox); have GW480 := Aside0.mk ((by rw [hg]; exact (below_size (bw_q HB)) : w.heap.size ≤ gb480)); have GE480 := Aside0.mk ((by rw [hg]; exact (below_size (bw_q HB)) : w.heap.size ≤ gb480)); replace HB := Aside0.mk (below_step (bw_q HB) hb); have NB479_480 := Aside0.mk ((by rw [hg]; exact Nat.ne_of_lt (blk_lt (g := gb479) (o := .cells #[.int .i64 a0_0, .int .i64 a0_1, .int .i64 a0_2, .int .i64 a0_3, .int .i64 a0_4, .slice A0_5 l0_5.length c0_5, .int .i64 a0_6, .bool a0_7] 61 (0, 0)) (bk_q BK479)) : gb479 ≠ gb480)); have NB480_479 := Aside0.mk ((by rw [hg]; exact Nat.ne_of_gt (blk_lt (g := gb479) (o := .cells #[.int .i64 a0_0, .int .i64 a0_1, .int .i64 a0_2, .int .i64 a0_3, .int .i64 a0_4, .slice A0_5 l0_5.length c0_5, .int .i64 a0_6, .bool a0_7] 61 (0, 0)) (bk_q BK479)) : gb480 ≠ gb479)); replace BK479 := Aside0.mk (blk_below (g := gb479) (bk_q BK479) hb); clear hb hbox hg; have hnb13 := NB479_480.out; have hnc13 := NB480_479.out; have hcz14_0 : w12.cell? ⟨gb479, 0, none⟩ = some (.int .i64 a0_0) := (blk_cell BK479.out 0).trans rfl; have hcz14_1 : w12.cell? ⟨gb479, 1, none⟩ = some (.int .i64 a0_1) := (blk_cell BK479.out 1).trans rfl; have hcz14_2 : w12.cell? ⟨gb479, 2, none⟩ = some (.int .i64 a0_2) := (blk_cell BK479.out 2).trans rfl; have hcz14_3 : w12.cell? ⟨gb479, 3, none⟩ = some (.int .i64 a0_3) := (blk_cell BK479.out 3).trans rfl; have hcz14_4 : w12.cell? ⟨gb479, 4, none⟩ = some (.int .i64 a0_4) := (blk_cell BK479.out 4).trans rfl; have hcz14_5 : w12.cell? ⟨gb479, 5, none⟩ = some (.slice A0_5 l0_5.length c0_5) := (blk_cell BK479.out 5).trans rfl; have hcz14_6 : w12.cell? ⟨gb479, 6, none⟩ = some (.int .i64 a0_6) := (blk_cell BK479.out 6).trans rfl; have hcz14_7 : w12.cell? ⟨gb479, 7, none⟩ = some (.bool a0_7) := (blk_cell BK479.out 7).trans rfl; have hfz14_0 := blk_frozen BK479.out 0; have hfz14_1 := blk_frozen BK479.out 1; have hfz14_2 := blk_frozen BK479.out 2; have hfz14_3 := blk_frozen BK479.out 3; have hfz14_4 := blk_frozen BK479.out 4; have hfz14_5 := blk_frozen BK479.out 5; have hfz14_6 := blk_frozen BK479.out 6; have hfz14_7 := blk_frozen BK479.out 7; have hcz15_0 : w12.cell? ⟨gb480, 0, none⟩ = some (.int .i64 a1_0) := (blk_cell BK480.out 0).trans rfl; have hcz15_1 : w12.cell? ⟨gb480, 1, none⟩ = some (.int .i64 a1_1) := (blk_cell BK480.out 1).trans rfl; have hcz15_2 : w12.cell? ⟨gb480, 2, none⟩ = some (.int .i64 a1_2) := (blk_cell BK480.out 2).trans rfl; have hcz15_3 : w12.cell? ⟨gb480, 3, none⟩ = some (.int .i64 a1_3) := (blk_cell BK480.out 3).trans rfl; have hcz15_4 : w12.cell? ⟨gb480, 4, none⟩ = some (.int .i64 a1_4) := (blk_cell BK480.out 4).trans rfl; have hcz15_5 : w12.cell? ⟨gb480, 5, none⟩ = some (.slice A1_5 l1_5.length c1_5) := (blk_cell BK480.out 5).trans rfl; have hcz15_6 : w12.cell? ⟨gb480, 6, none⟩ = some (.int .i64 a1_6) := (blk_cell BK480.out 6).trans rfl; have hcz15_7 : w12.cell? ⟨gb480, 7, none⟩ = some (.bool a1_7) := (blk_cell BK480.out 7).trans rfl; have hfz15_0 := blk_frozen BK480.out 0; have hfz15_1 := blk_frozen BK480.out 1; have hfz15_2 := blk_frozen BK480.out 2; have hfz15_3 := blk_frozen BK480.out 3; have hfz15_4 := blk_frozen BK480.out 4; have hfz15_5 := blk_frozen BK480.out 5; have hfz15_6 := blk_frozen BK480.out 6; have hfz15_7 := blk_frozen BK480.out 7))
    go_ret
    exact ⟨er_q, bw_q HB⟩
  ·rw [if_neg c4] at H
   have c4b0 : (a0_1 == a1_1) = false := beq_eq_false_iff_ne.mpr c4
   have c4b1 : (a0_1 != a1_1) = true := bne_iff_ne.mpr c4
   obtain rfl := Option.some.inj H
   go_enter Try.func52, Try.ntmps52
   go_wp2_with (first | ((with_reducible refine gate_dst (N := 2) rfl ?_); refine box_q 2 #[.int .i64 a0_0, .int .i64 a0_1, .int .i64 a0_2, .int .i64 a0_3, .int .i64 a0_4, .slice A0_5 l0_5.length c0_5, .int .i64 a0_6, .bool a0_7] 61 ?_; intro gb479 hg w16 hbox hb; have BK479 := Aside0.mk (hbox); have GW479 := Aside0.mk ((by rw [hg]; exact (below_size (bw_q HB)) : w.heap.size ≤ gb479)); have GE479 := Aside0.mk ((by rw [hg]; exact (below_size (bw_q HB)) : w.heap.size ≤ gb479)); replace HB := Aside0.mk (below_step (bw_q HB) hb); clear hb hbox hg) | ((with_reducible refine gate_dst (N := 3) rfl ?_); refine box_q 3 #[.int .i64 a1_0, .int .i64 a1_1, .int .i64 a1_2, .int .i64 a1_3, .int .i64 a1_4, .slice A1_5 l1_5.length c1_5, .int .i64 a1_6, .bool a1_7] 61 ?_; intro gb480 hg w17 hbox hb; have BK480 := Aside0.mk (hbox); have GW480 := Aside0.mk ((by rw [hg]; exact (below_size (bw_q HB)) : w.heap.size ≤ gb480)); have GE480 := Aside0.mk ((by rw [hg]; exact (below_size (bw_q HB)) : w.heap.size ≤ gb480)); replace HB := Aside0.mk (below_step (bw_q HB) hb); have NB479_480 := Aside0.mk ((by rw [hg]; exact Nat.ne_of_lt (blk_lt (g := gb479) (o := .cells #[.int .i64 a0_0, .int .i64 a0_1, .int .i64 a0_2, .int .i64 a0_3, .int .i64 a0_4, .slice A0_5 l0_5.length c0_5, .int .i64 a0_6, .bool a0_7] 61 (0, 0)) (bk_q BK479)) : gb479 ≠ gb480)); have NB480_479 := Aside0.mk ((by rw [hg]; exact Nat.ne_of_gt (blk_lt (g := gb479) (o := .cells #[.int .i64 a0_0, .int .i64 a0_1, .int .i64 a0_2, .int .i64 a0_3, .int .i64 a0_4, .slice A0_5 l0_5.length c0_5, .int .i64 a0_6, .bool a0_7] 61 (0, 0)) (bk_q BK479)) : gb480 ≠ gb479)); replace BK479 := Aside0.mk (blk_below (g := gb479) (bk_q BK479) hb); clear hb hbox hg; have hnb18 := NB479_480.out; have hnc18 := NB480_479.out; have hcz19_0 : w17.cell? ⟨gb479, 0, none⟩ = some (.int .i64 a0_0) := (blk_cell BK479.out 0).trans rfl; have hcz19_1 : w17.cell? ⟨gb479, 1, none⟩ = some (.int .i64 a0_1) := (blk_cell BK479.out 1).trans rfl; have hcz19_2 : w17.cell? ⟨gb479, 2, none⟩ = some (.int .i64 a0_2) := (blk_cell BK479.out 2).trans rfl; have hcz19_3 : w17.cell? ⟨gb479, 3, none⟩ = some (.int .i64 a0_3) := (blk_cell BK479.out 3).trans rfl; have hcz19_4 : w17.cell? ⟨gb479, 4, none⟩ = some (.int .i64 a0_4) := (blk_cell BK479.out 4).trans rfl; have hcz19_5 : w17.cell? ⟨gb479, 5, none⟩ = some (.slice A0_5 l0_5.length c0_5) := (blk_cell BK479.out 5).trans rfl; have hcz19_6 : w17.cell? ⟨gb479, 6, none⟩ = some (.int .i64 a0_6) := (blk_cell BK479.out 6).trans rfl; have hcz19_7 : w17.cell? ⟨gb479, 7, none⟩ = some (.bool a0_7) := (blk_cell BK479.out 7).trans rfl; have hfz19_0 := blk_frozen BK479.out 0; have hfz19_1 := blk_frozen BK479.out 1; have hfz19_2 := blk_frozen BK479.out 2; have hfz19_3 := blk_frozen BK479.out 3; have hfz19_4 := blk_frozen BK479.out 4; have hfz19_5 := blk_frozen BK479.out 5; have hfz19_6 := blk_frozen BK479.out 6; have hfz19_7 := blk_frozen BK479.out 7; have hcz20_0 : w17.cell? ⟨gb480, 0, none⟩ = some (.int .i64 a1_0) := (blk_cell BK480.out 0).trans rfl; have hcz20_1 : w17.cell? ⟨gb480, 1, none⟩ = some (.int .i64 a1_1) := (blk_cell BK480.out 1).trans rfl; have hcz20_2 : w17.cell? ⟨gb480, 2, none⟩ = some (.int .i64 a1_2) := (blk_cell BK480.out 2).trans rfl; have hcz20_3 : w17.cell? ⟨gb480, 3, none⟩ = some (.int .i64 a1_3) := (blk_cell BK480.out 3).trans rfl; have hcz20_4 : w17.cell? ⟨gb480, 4, none⟩ = some (.int .i64 a1_4) := (blk_cell BK480.out 4).trans rfl; have hcz20_5 : w17.cell? ⟨gb480, 5, none⟩ = some (.slice A1_5 l1_5.length c1_5) := (blk_cell BK480.out 5).trans rfl; have hcz20_6 : w17.cell? ⟨gb480, 6, none⟩ = some (.int .i64 a1_6) := (blk_cell BK480.out 6).trans rfl; have hcz20_7 : w17.cell? ⟨gb480, 7, none⟩ = some (.bool a1_7) := (blk_cell BK480.out 7).trans rfl; have hfz20_0 := blk_frozen BK480.out 0; have hfz20_1 := blk_frozen BK480.out 1; have hfz20_2 := blk_frozen BK480.out 2; have hfz20_3 := blk_frozen BK480.out 3; have hfz20_4 := blk_frozen BK480.out 4; have hfz20_5 := blk_frozen BK480.out 5; have hfz20_6 := blk_frozen BK480.out 6; have hfz20_7 := blk_frozen BK480.out 7))
   go_ret
   exact ⟨er_q, bw_q HB⟩
 ·rw [if_neg c3] at H
  have c3b0 : (a0_0 == a1_0) = false := beq_eq_false_iff_ne.mpr c3
  have c3b1 : (a0_0 != a1_0) = true := bne_iff_ne.mpr c3
  obtain rfl := Option.some.inj H
  go_enter Try.func52, Try.ntmps52
  go_wp2_with (first | ((with_reducible refine gate_dst (N := 2) rfl ?_); refine box_q 2 #[.int .i64 a0_0, .int .i64 a0_1, .int .i64 a0_2, .int .i64 a0_3, .int .i64 a0_4, .slice A0_5 l0_5.length c0_5, .int .i64 a0_6, .bool a0_7] 61 ?_; intro gb479 hg w21 hbox hb; have BK479 := Aside0.mk (hbox); have GW479 := Aside0.mk ((by rw [hg]; exact (below_size (bw_q HB)) : w.heap.size ≤ gb479)); have GE479 := Aside0.mk ((by rw [hg]; exact (below_size (bw_q HB)) : w.heap.size ≤ gb479)); replace HB := Aside0.mk (below_step (bw_q HB) hb); clear hb hbox hg) | ((with_reducible refine gate_dst (N := 3) rfl ?_); refine box_q 3 #[.int .i64 a1_0, .int .i64 a1_1, .int .i64 a1_2, .int .i64 a1_3, .int .i64 a1_4, .slice A1_5 l1_5.length c1_5, .int .i64 a1_6, .bool a1_7] 61 ?_; intro gb480 hg w22 hbox hb; have BK480 := Aside0.mk (hbox); have GW480 := Aside0.mk ((by rw [hg]; exact (below_size (bw_q HB)) : w.heap.size ≤ gb480)); have GE480 := Aside0.mk ((by rw [hg]; exact (below_size (bw_q HB)) : w.heap.size ≤ gb480)); replace HB := Aside0.mk (below_step (bw_q HB) hb); have NB479_480 := Aside0.mk ((by rw [hg]; exact Nat.ne_of_lt (blk_lt (g := gb479) (o := .cells #[.int .i64 a0_0, .int .i64 a0_1, .int .i64 a0_2, .int .i64 a0_3, .int .i64 a0_4, .slice A0_5 l0_5.length c0_5, .int .i64 a0_6, .bool a0_7] 61 (0, 0)) (bk_q BK479)) : gb479 ≠ gb480)); have NB480_479 := Aside0.mk ((by rw [hg]; exact Nat.ne_of_gt (blk_lt (g := gb479) (o := .cells #[.int .i64 a0_0, .int .i64 a0_1, .int .i64 a0_2, .int .i64 a0_3, .int .i64 a0_4, .slice A0_5 l0_5.length c0_5, .int .i64 a0_6, .bool a0_7] 61 (0, 0)) (bk_q BK479)) : gb480 ≠ gb479)); replace BK479 := Aside0.mk (blk_below (g := gb479) (bk_q BK479) hb); clear hb hbox hg; have hnb23 := NB479_480.out; have hnc23 := NB480_479.out; have hcz24_0 : w22.cell? ⟨gb479, 0, none⟩ = some (.int .i64 a0_0) := (blk_cell BK479.out 0).trans rfl; have hcz24_1 : w22.cell? ⟨gb479, 1, none⟩ = some (.int .i64 a0_1) := (blk_cell BK479.out 1).trans rfl; have hcz24_2 : w22.cell? ⟨gb479, 2, none⟩ = some (.int .i64 a0_2) := (blk_cell BK479.out 2).trans rfl; have hcz24_3 : w22.cell? ⟨gb479, 3, none⟩ = some (.int .i64 a0_3) := (blk_cell BK479.out 3).trans rfl; have hcz24_4 : w22.cell? ⟨gb479, 4, none⟩ = some (.int .i64 a0_4) := (blk_cell BK479.out 4).trans rfl; have hcz24_5 : w22.cell? ⟨gb479, 5, none⟩ = some (.slice A0_5 l0_5.length c0_5) := (blk_cell BK479.out 5).trans rfl; have hcz24_6 : w22.cell? ⟨gb479, 6, none⟩ = some (.int .i64 a0_6) := (blk_cell BK479.out 6).trans rfl; have hcz24_7 : w22.cell? ⟨gb479, 7, none⟩ = some (.bool a0_7) := (blk_cell BK479.out 7).trans rfl; have hfz24_0 := blk_frozen BK479.out 0; have hfz24_1 := blk_frozen BK479.out 1; have hfz24_2 := blk_frozen BK479.out 2; have hfz24_3 := blk_frozen BK479.out 3; have hfz24_4 := blk_frozen BK479.out 4; have hfz24_5 := blk_frozen BK479.out 5; have hfz24_6 := blk_frozen BK479.out 6; have hfz24_7 := blk_frozen BK479.out 7; have hcz25_0 : w22.cell? ⟨gb480, 0, none⟩ = some (.int .i64 a1_0) := (blk_cell BK480.out 0).trans rfl; have hcz25_1 : w22.cell? ⟨gb480, 1, none⟩ = some (.int .i64 a1_1) := (blk_cell BK480.out 1).trans rfl; have hcz25_2 : w22.cell? ⟨gb480, 2, none⟩ = some (.int .i64 a1_2) := (blk_cell BK480.out 2).trans rfl; have hcz25_3 : w22.cell? ⟨gb480, 3, none⟩ = some (.int .i64 a1_3) := (blk_cell BK480.out 3).trans rfl; have hcz25_4 : w22.cell? ⟨gb480, 4, none⟩ = some (.int .i64 a1_4) := (blk_cell BK480.out 4).trans rfl; have hcz25_5 : w22.cell? ⟨gb480, 5, none⟩ = some (.slice A1_5 l1_5.length c1_5) := (blk_cell BK480.out 5).trans rfl; have hcz25_6 : w22.cell? ⟨gb480, 6, none⟩ = some (.int .i64 a1_6) := (blk_cell BK480.out 6).trans rfl; have hcz25_7 : w22.cell? ⟨gb480, 7, none⟩ = some (.bool a1_7) := (blk_cell BK480.out 7).trans rfl; have hfz25_0 := blk_frozen BK480.out 0; have hfz25_1 := blk_frozen BK480.out 1; have hfz25_2 := blk_frozen BK480.out 2; have hfz25_3 := blk_frozen BK480.out 3; have hfz25_4 := blk_frozen BK480.out 4; have hfz25_5 := blk_frozen BK480.out 5; have hfz25_6 := blk_frozen BK480.out 6; have hfz25_7 := blk_frozen BK480.out 7))
  go_ret
  exact ⟨er_q, bw_q HB⟩

end Go.Proofs.Ythjmdiggglkeaaa.Q
