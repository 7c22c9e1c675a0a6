import Derived.Test.YthjmdiggglkeaaaXFnStoresQimplnearOk
import Derived.Test.YthjmdiggglkeaaaXFnStoresQimplcopyRecords
/- A Go function as a Lean function, and its contract: for every input the Go code comes to what the Lean function tells. -/





namespace Go.Proofs.Ythjmdiggglkeaaa.Q
open Go.RowKit Go.Proofs.YthjmdiggglkeaaaW.PrintWords Go.Proofs.YthjmdiggglkeaaaW.PrintLast Go.Proofs.YthjmdiggglkeaaaW.PrintMore
attribute [local go_sem] max2_int min2_int max_two min_two max_three min_three max_four min_four   -- for this text's walks alone
set_option linter.unusedVariables false
set_option linter.unusedSimpArgs false

/-! ### impl_put: function 111 -/
mutual
def impl_put.j1 : Nat → List (S61) → Int → Int → Int → Int → Int → Int → List (S127) → Int → Bool → Option ((List (S61)))
 | 0, _, _, _, _, _, _, _, _, _, _ => none
 | k + 1, x0, x5, x616000, x616001, x616002, x616003, x616004, x616005, x616006, x616007 => if 0 ≤ x5 then (if x5 ≤ (x0.length : Int) then ((impl_copyRecords.f k (x0.take (x5 : Int).toNat)).bind fun t622 => ((impl_copyRecord.f x616000 x616001 x616002 x616003 x616004 x616005 x616006 x616007).bind fun bt625 => (if t622.length < 1759218604441 then ((some (t622 ++ [(⟨bt625.1, bt625.2.1, bt625.2.2.1, bt625.2.2.2.1, bt625.2.2.2.2.1, bt625.2.2.2.2.2.1, bt625.2.2.2.2.2.2.1, bt625.2.2.2.2.2.2.2⟩ : S61)] : List (S61))).bind fun y635 => (if x5 < (x0.length : Int) then ((impl_SameKey.f ((rd_T61 x0 x5).f0) ((rd_T61 x0 x5).f1) ((rd_T61 x0 x5).f2) ((rd_T61 x0 x5).f3) ((rd_T61 x0 x5).f4) ((rd_T61 x0 x5).f5) ((rd_T61 x0 x5).f6) ((rd_T61 x0 x5).f7) x616000 x616001 x616002 x616003 x616004 x616005 x616006 x616007).bind fun t639 => (if t639 = true then (if 0 ≤ (wrap64 (x5 + 1)) then (if (wrap64 (x5 + 1)) ≤ (x0.length : Int) then ((impl_copyRecords.f k (x0.drop ((wrap64 (x5 + 1)) : Int).toNat)).bind fun t644 => (if y635.length + t644.length < 1759218604441 then (some (y635 ++ t644)) else (none))) else (none)) else (none)) else ((impl_copyRecords.f k (x0.drop (x5 : Int).toNat)).bind fun t654 => (if y635.length + t654.length < 1759218604441 then (some (y635 ++ t654)) else (none))))) else ((impl_copyRecords.f k (x0.drop (x5 : Int).toNat)).bind fun t664 => (if y635.length + t664.length < 1759218604441 then (some (y635 ++ t664)) else (none))))) else (none)))) else (none)) else (none)
def impl_put.l0 : Nat → List (S61) → Int → Int → Int → Int → Int → Int → List (S127) → Int → Bool → Option ((List (S61)))
 | 0, _, _, _, _, _, _, _, _, _, _ => none
 | k + 1, x0, x5, x616000, x616001, x616002, x616003, x616004, x616005, x616006, x616007 => if x5 < (x0.length : Int) then (if 0 ≤ x5 then ((impl_Before.f ((rd_T61 x0 x5).f0) ((rd_T61 x0 x5).f1) ((rd_T61 x0 x5).f2) ((rd_T61 x0 x5).f3) ((rd_T61 x0 x5).f4) ((rd_T61 x0 x5).f5) ((rd_T61 x0 x5).f6) ((rd_T61 x0 x5).f7) x616000 x616001 x616002 x616003 x616004 x616005 x616006 x616007).bind fun t617 => (if t617 = true then (impl_put.l0 k x0 (wrap64 (x5 + 1)) x616000 x616001 x616002 x616003 x616004 x616005 x616006 x616007) else (impl_put.j1 k x0 x5 x616000 x616001 x616002 x616003 x616004 x616005 x616006 x616007))) else (none)) else (impl_put.j1 k x0 x5 x616000 x616001 x616002 x616003 x616004 x616005 x616006 x616007)
end
def impl_put.f (k : Nat) (l0 : List (S61)) (a1_0 : Int) (a1_1 : Int) (a1_2 : Int) (a1_3 : Int) (a1_4 : Int) (l1_5 : List (S127)) (a1_6 : Int) (a1_7 : Bool) : Option ((List (S61))) := impl_put.l0 k l0 0 a1_0 a1_1 a1_2 a1_3 a1_4 l1_5 a1_6 a1_7
theorem impl_put.mono_l : ∀ k, (∀ y0 y1 y2 y3 y4 y5 y6 y7 y8 y9, LeO (impl_put.j1 k y0 y1 y2 y3 y4 y5 y6 y7 y8 y9) (impl_put.j1 (k + 1) y0 y1 y2 y3 y4 y5 y6 y7 y8 y9)) ∧ (∀ y0 y1 y2 y3 y4 y5 y6 y7 y8 y9, LeO (impl_put.l0 k y0 y1 y2 y3 y4 y5 y6 y7 y8 y9) (impl_put.l0 (k + 1) y0 y1 y2 y3 y4 y5 y6 y7 y8 y9))
 | 0 => ⟨fun _ _ _ _ _ _ _ _ _ _ r h => by simp [impl_put.j1] at h, fun _ _ _ _ _ _ _ _ _ _ r h => by simp [impl_put.l0] at h⟩
 | k + 1 => by
  obtain ⟨ih0, ih1⟩ := impl_put.mono_l k
  refine ⟨?_, ?_⟩
  ·intro y0 y1 y2 y3 y4 y5 y6 y7 y8 y9
   unfold impl_put.j1
   repeat' first
   | (with_reducible exact ih0 _ _ _ _ _ _ _ _ _ _)
   | (with_reducible exact ih1 _ _ _ _ _ _ _ _ _ _)
   | (with_reducible exact impl_copyRecords.mono _ _)
   | (with_reducible exact LeO.refl _)
   | (with_reducible exact LeO.none _)
   | (with_reducible refine LeO.ite ?_ ?_)
   | (with_reducible refine LeO.bind ?_ (fun _ => ?_))
   | exact ih0 _ _ _ _ _ _ _ _ _ _
   | exact ih1 _ _ _ _ _ _ _ _ _ _
   | exact impl_copyRecords.mono _ _
   | exact LeO.none _
   | refine LeO.ite ?_ ?_
   | refine LeO.bind ?_ (fun _ => ?_)
  ·intro y0 y1 y2 y3 y4 y5 y6 y7 y8 y9
   unfold impl_put.l0
   repeat' first
   | (with_reducible exact ih0 _ _ _ _ _ _ _ _ _ _)
   | (with_reducible exact ih1 _ _ _ _ _ _ _ _ _ _)
   | (with_reducible exact impl_copyRecords.mono _ _)
   | (with_reducible exact LeO.refl _)
   | (with_reducible exact LeO.none _)
   | (with_reducible refine LeO.ite ?_ ?_)
   | (with_reducible refine LeO.bind ?_ (fun _ => ?_))
   | exact ih0 _ _ _ _ _ _ _ _ _ _
   | exact ih1 _ _ _ _ _ _ _ _ _ _
   | exact impl_copyRecords.mono _ _
   | exact LeO.none _
   | refine LeO.ite ?_ ?_
   | refine LeO.bind ?_ (fun _ => ?_)
theorem impl_put.mono : ∀ a0 a1 a2 a3 a4 a5 a6 a7 a8 k, LeO (impl_put.f k a0 a1 a2 a3 a4 a5 a6 a7 a8) (impl_put.f (k + 1) a0 a1 a2 a3 a4 a5 a6 a7 a8) := by
 intro a0 a1 a2 a3 a4 a5 a6 a7 a8 k
 obtain ⟨ih0, ih1⟩ := impl_put.mono_l k
 unfold impl_put.f
 repeat' first
   | (with_reducible exact ih0 _ _ _ _ _ _ _ _ _ _)
   | (with_reducible exact ih1 _ _ _ _ _ _ _ _ _ _)
   | (with_reducible exact impl_copyRecords.mono _ _)
   | (with_reducible exact LeO.refl _)
   | (with_reducible exact LeO.none _)
   | (with_reducible refine LeO.ite ?_ ?_)
   | (with_reducible refine LeO.bind ?_ (fun _ => ?_))
   | exact ih0 _ _ _ _ _ _ _ _ _ _
   | exact ih1 _ _ _ _ _ _ _ _ _ _
   | exact impl_copyRecords.mono _ _
   | exact LeO.none _
   | refine LeO.ite ?_ ?_
   | refine LeO.bind ?_ (fun _ => ?_)
def impl_put.T2 : Bool × List (List Nat × List Nat) := (true, [([], []), ([], []), ([1], [1]), ([0, 2], [0, 2]), ([3], [3]), ([4], [4]), ([4], [4]), ([5, 6, 4], [4, 5, 6]), ([7, 4], [4, 7]), ([4], [4]), ([8, 9, 4, 4], [4, 8, 9]), ([4, 10], [4, 10])])
def impl_put.B2 : List Nat := [0, 0, 2, 7, 15, 31, 31, 127, 255, 31, 1023, 2047]
theorem impl_put.tab2 : rtab .any (opsOf Try.f111 2) = impl_put.T2 := by kernel_rfl
theorem impl_put.bits2 : waitsOk impl_put.T2.2 impl_put.B2 = true := by kernel_rfl
def impl_put.T4 : Bool × List (List Nat × List Nat) := (true, [([], []), ([], []), ([0, 1], [0, 1]), ([2], [2]), ([], []), ([4, 3], [4]), ([5], [5]), ([3, 6, 5], [3, 6]), ([7, 7, 0, 1, 2, 3, 4, 5, 6, 7], [7])])
def impl_put.B4 : List Nat := [0, 0, 3, 7, 0, 31, 63, 127, 255]
theorem impl_put.tab4 : rtab .any (opsOf Try.f111 4) = impl_put.T4 := by kernel_rfl
theorem impl_put.bits4 : waitsOk impl_put.T4.2 impl_put.B4 = true := by kernel_rfl
def impl_put.T5 : Bool × List (List Nat × List Nat) := (true, [([], []), ([], []), ([1], [1]), ([0, 2], [0, 2]), ([3], [3]), ([4], [4]), ([4], [4]), ([5, 6, 4], [4, 5, 6]), ([7, 4], [4, 7]), ([4], [4]), ([8, 9, 4, 4], [4, 8, 9]), ([4, 10], [4, 10])])
def impl_put.B5 : List Nat := [0, 0, 2, 7, 15, 31, 31, 127, 255, 31, 1023, 2047]
theorem impl_put.tab5 : rtab .any (opsOf Try.f111 5) = impl_put.T5 := by kernel_rfl
theorem impl_put.bits5 : waitsOk impl_put.T5.2 impl_put.B5 = true := by kernel_rfl
set_option maxHeartbeats 8000000 in
set_option maxRecDepth 100000 in
theorem impl_put.calls (k : Nat) (A0 : Option Addr) (c0 : Nat) (l0 : List (S61)) (a1_0 : Int) (a1_1 : Int) (a1_2 : Int) (a1_3 : Int) (a1_4 : Int) (A1_5 : Option Addr) (c1_5 : Nat) (l1_5 : List (S127)) (a1_6 : Int) (a1_7 : Bool) (r : List (S61)) (w : World) (hr0 : Kd.C k61 w A0 l0.length l0) (hc0 : l0.length ≤ c0) (hr1_5 : Kd.C k127 w A1_5 l1_5.length l1_5) (hc1_5 : l1_5.length ≤ c1_5) (h : impl_put.f k l0 a1_0 a1_1 a1_2 a1_3 a1_4 l1_5 a1_6 a1_7 = some r) :
  Calls Try.prog 111 #[.slice A0 l0.length c0, .agg #[.int .i64 a1_0, .int .i64 a1_1, .int .i64 a1_2, .int .i64 a1_3, .int .i64 a1_4, .slice A1_5 l1_5.length c1_5, .int .i64 a1_6, .bool a1_7]] w fun e w' => ∃ v0_ : Value, e = .returned (v0_) ∧ Kd.S k61 61 w' w.heap.size (fun _ => True) v0_ r ∧ Below w.heap.size w w' := by
 have hu61 := Try.underlying61
 have HR0 := Aside0.mk hr0
 have HC0 := Aside0.mk hc0
 clear hr0 hc0
 have HR1_5 := Aside0.mk hr1_5
 have HC1_5 := Aside0.mk hc1_5
 clear hr1_5 hc1_5
 have HB := Aside0.mk (Below.refl w.heap.size w)
 have H : (impl_put.l0 k l0 0 a1_0 a1_1 a1_2 a1_3 a1_4 l1_5 a1_6 a1_7) = some r := h
 clear h
 have HC3 := Aside0.mk H
 clear H
 go_enter Try.func111, Try.ntmps111
 go_upto_block 0 with (first | ((with_reducible refine gate_dst (N := 3) rfl ?_); refine box_q 3 #[.int .i64 a1_0, .int .i64 a1_1, .int .i64 a1_2, .int .i64 a1_3, .int .i64 a1_4, .slice A1_5 l1_5.length c1_5, .int .i64 a1_6, .bool a1_7] 61 ?_; intro gb615 hg w4 hbox hb; have BK615 := Aside0.mk (hbox); have GW615 := Aside0.mk ((by rw [hg]; exact (below_size (bw_q HB)) : w.heap.size ≤ gb615)); have GE615 := Aside0.mk ((by rw [hg]; exact (below_size (bw_q HB)) : w.heap.size ≤ gb615)); replace HB := Aside0.mk (below_step (bw_q HB) hb); clear hb hbox hg))
 (try simp only [Act.put, List.setIfInBounds_toArray, List.set_cons_zero, List.set_cons_succ])
 go_cut [5] (fun v5 wc => ∃ (kq : Nat) (x5_2 : Int), v5 = .int .i64 x5_2 ∧ Aside0 (impl_put.j1 kq l0 x5_2 a1_0 a1_1 a1_2 a1_3 a1_4 l1_5 a1_6 a1_7 = some r) ∧ Aside0 (kq ≤ k) ∧ Aside0 (wc.heap[gb615]? = some (.cells #[.int .i64 a1_0, .int .i64 a1_1, .int .i64 a1_2, .int .i64 a1_3, .int .i64 a1_4, (.slice A1_5 l1_5.length c1_5), .int .i64 a1_6, .bool a1_7] 61 (0, 0))) ∧ Aside0 (Below w.heap.size w wc))
 case first =>
  have H := HC3.out
  clear HC3
  have H' := Aside0.mk H
  clear H
  go_wp2
  go_loopg [5] k (fun kq v5 w' => ∃ (x5_1 : Int), v5 = .int .i64 x5_1 ∧ Aside0 (impl_put.l0 kq l0 x5_1 a1_0 a1_1 a1_2 a1_3 a1_4 l1_5 a1_6 a1_7 = some r) ∧ Aside0 (kq ≤ k) ∧ Aside0 (w'.heap[gb615]? = some (.cells #[.int .i64 a1_0, .int .i64 a1_1, .int .i64 a1_2, .int .i64 a1_3, .int .i64 a1_4, (.slice A1_5 l1_5.length c1_5), .int .i64 a1_6, .bool a1_7] 61 (0, 0))) ∧ Aside0 (Below w.heap.size w w'))
  case atStart => exact ⟨(0), (by first | rfl | (simp; done) | (simp [*]; done)), H', ⟨Nat.le_refl _⟩, ⟨by refine bz_ ?_; exact BK615.out⟩, ⟨bw_q HB⟩⟩
  case round =>
   clear H'
   try clear c1
   try clear p2
   obtain ⟨x5_1, rfl, HA, HK1, BK615, HB⟩ := hrel
   cases gk with
   | zero => exact absurd HA.out (by simp [impl_put.l0])
   | succ k1 =>
    have H := HA.out
    clear HA
    simp only [impl_put.l0] at H
    by_cases c5 : x5_1 < (l0.length : Int)
    ·rw [if_pos c5] at H
     have c5b0 : decide (x5_1 < (l0.length : Int)) = true := decide_eq_true c5
     clear c5
     (first | rw [c5b0] | rw [c5b1] | (simp only [i64_w, i32_w]; first | rw [c5b0] | rw [c5b1]) | skip)
     by_cases c6 : 0 ≤ x5_1
     ·rw [if_pos c6] at H
      have c6b0 : decide (0 ≤ x5_1) = true := decide_eq_true c6
      clear c6
      replace H := Option.bind_eq_some_iff.mp H
      obtain ⟨t617, A70, H⟩ := H
      replace H : (if t617 = true then (impl_put.l0 k1 l0 (wrap64 (x5_1 + 1)) a1_0 a1_1 a1_2 a1_3 a1_4 l1_5 a1_6 a1_7) else (impl_put.j1 k1 l0 x5_1 a1_0 a1_1 a1_2 a1_3 a1_4 l1_5 a1_6 a1_7)) = some r := H
      have A7 := Aside0.mk A70
      clear A70
      have HZ17 := Aside0.mk H
      clear H
      try go_wp2
      replace BK615 := Aside0.mk (blk_drew BK615.out)
      replace HB := Aside0.mk (below_drew1 HB.out)
      have p616 : 0 ≤ (x5_1 : Int) := of_decide_eq_true as_q
      have q616 : x5_1 < (l0.length : Int) := of_decide_eq_true as_q
      obtain ⟨ad616, A616_5, c616_5, e616, hx616_0, hx616_1, hx616_2, hx616_3, hx616_4, hx616_5, hx616_6, hx616_7, hl616_5, hi616_5⟩ := at_T61 HR0.out x5_1 p616 q616
      have hw616_7 := hx616_7
      have hw616_6 := hx616_6
      have hw616_5 := hx616_5
      have hw616_4 := hx616_4
      have hw616_3 := hx616_3
      have hw616_2 := hx616_2
      have hw616_1 := hx616_1
      have hw616_0 := hx616_0
      cases e616
      replace hx616_0 := (HB.out.cell (World.block_lt_of_cell? w _ hx616_0)).trans hx616_0
      replace hx616_1 := (HB.out.cell (World.block_lt_of_cell? w _ hx616_1)).trans hx616_1
      replace hx616_2 := (HB.out.cell (World.block_lt_of_cell? w _ hx616_2)).trans hx616_2
      replace hx616_3 := (HB.out.cell (World.block_lt_of_cell? w _ hx616_3)).trans hx616_3
      replace hx616_4 := (HB.out.cell (World.block_lt_of_cell? w _ hx616_4)).trans hx616_4
      replace hx616_5 := (HB.out.cell (World.block_lt_of_cell? w _ hx616_5)).trans hx616_5
      replace hx616_6 := (HB.out.cell (World.block_lt_of_cell? w _ hx616_6)).trans hx616_6
      replace hx616_7 := (HB.out.cell (World.block_lt_of_cell? w _ hx616_7)).trans hx616_7
      have HR616_5 := Aside0.mk hi616_5
      have HC616_5 := Aside0.mk hl616_5
      clear hi616_5 hl616_5
      replace p616 := eq_true p616
      replace q616 := eq_true q616
      refine start_ (n := 12) (S := fun w' => w'.cell? ⟨gb615, 0, none⟩ = some (.int .i64 a1_0) ∧ w'.cell? ⟨gb615, 1, none⟩ = some (.int .i64 a1_1) ∧ w'.cell? ⟨gb615, 2, none⟩ = some (.int .i64 a1_2) ∧ w'.cell? ⟨gb615, 3, none⟩ = some (.int .i64 a1_3) ∧ w'.cell? ⟨gb615, 4, none⟩ = some (.int .i64 a1_4) ∧ w'.cell? ⟨gb615, 5, none⟩ = some (.slice A1_5 l1_5.length c1_5) ∧ w'.cell? ⟨gb615, 6, none⟩ = some (.int .i64 a1_6) ∧ w'.cell? ⟨gb615, 7, none⟩ = some (.bool a1_7) ∧ w'.cell? (ad616.add ((x5_1).toNat * 8)) = some (.int .i64 ((rd_T61 l0 x5_1).f0)) ∧ w'.cell? ⟨(ad616.add ((x5_1).toNat * 8)).block, (ad616.add ((x5_1).toNat * 8)).off + 1, none⟩ = some (.int .i64 ((rd_T61 l0 x5_1).f1)) ∧ w'.cell? ⟨(ad616.add ((x5_1).toNat * 8)).block, (ad616.add ((x5_1).toNat * 8)).off + 2, none⟩ = some (.int .i64 ((rd_T61 l0 x5_1).f2)) ∧ w'.cell? ⟨(ad616.add ((x5_1).toNat * 8)).block, (ad616.add ((x5_1).toNat * 8)).off + 3, none⟩ = some (.int .i64 ((rd_T61 l0 x5_1).f3)) ∧ w'.cell? ⟨(ad616.add ((x5_1).toNat * 8)).block, (ad616.add ((x5_1).toNat * 8)).off + 4, none⟩ = some (.int .i64 ((rd_T61 l0 x5_1).f4)) ∧ w'.cell? ⟨(ad616.add ((x5_1).toNat * 8)).block, (ad616.add ((x5_1).toNat * 8)).off + 5, none⟩ = some (.slice A616_5 ((rd_T61 l0 x5_1).f5).length c616_5) ∧ w'.cell? ⟨(ad616.add ((x5_1).toNat * 8)).block, (ad616.add ((x5_1).toNat * 8)).off + 6, none⟩ = some (.int .i64 ((rd_T61 l0 x5_1).f6)) ∧ w'.cell? ⟨(ad616.add ((x5_1).toNat * 8)).block, (ad616.add ((x5_1).toNat * 8)).off + 7, none⟩ = some (.bool ((rd_T61 l0 x5_1).f7))) (ds := []) (bL 12 0) (by kernel_rfl) rfl rfl ⟨(blk_cell BK615.out 0).trans rfl, (blk_cell BK615.out 1).trans rfl, (blk_cell BK615.out 2).trans rfl, (blk_cell BK615.out 3).trans rfl, (blk_cell BK615.out 4).trans rfl, (blk_cell BK615.out 5).trans rfl, (blk_cell BK615.out 6).trans rfl, (blk_cell BK615.out 7).trans rfl, ((HB.out.cell (World.block_lt_of_cell? w _ hw616_0)).trans hw616_0), ((HB.out.cell (World.block_lt_of_cell? w _ hw616_1)).trans hw616_1), ((HB.out.cell (World.block_lt_of_cell? w _ hw616_2)).trans hw616_2), ((HB.out.cell (World.block_lt_of_cell? w _ hw616_3)).trans hw616_3), ((HB.out.cell (World.block_lt_of_cell? w _ hw616_4)).trans hw616_4), ((HB.out.cell (World.block_lt_of_cell? w _ hw616_5)).trans hw616_5), ((HB.out.cell (World.block_lt_of_cell? w _ hw616_6)).trans hw616_6), ((HB.out.cell (World.block_lt_of_cell? w _ hw616_7)).trans hw616_7)⟩ (fun hHeld => ?_); refine with_tabW impl_put.tab2 impl_put.bits2 (fun HT_ HW_ => ?_)
      generalize wr.drew = w9 at BK615 HB HR616_5 hx616_0 hx616_1 hx616_2 hx616_3 hx616_4 hx616_5 hx616_6 hx616_7 hHeld ⊢
      refine pq_ 0 7 (bL 12 1) HT_.out rfl rfl ?_
      refine pq_ 1 8 (bL 12 3) HT_.out rfl rfl ?_
      refine pq_ 2 9 (bL 12 7) HT_.out rfl rfl ?_
      refine pq_ 3 10 (bL 12 15) HT_.out rfl rfl ?_
      refine pq_ 4 11 (bL 12 31) HT_.out rfl rfl ?_
      refine pq_ 5 12 (bL 12 63) HT_.out rfl rfl ?_
      refine pq_ 6 13 (bL 12 127) HT_.out rfl rfl ?_
      refine pq_ 7 14 (bL 12 255) HT_.out rfl rfl ?_
      refine take_ (i := 8) (N := some 15) (v := ?_) (a' := ?_) (bL 12 511) rfl rfl (take_ofW HT_.out HW_.out (by kernel_rfl)) (fun _ _ _ h => h) (Or.inl ⟨by rfl, ?_⟩) hHeld ?_ ?_; rotate_left; (rintro w' ⟨s0, s1, s2, s3, s4, s5, s6, s7, s8, s9, s10, s11, s12, s13, s14, s15⟩; go_simp; with_reducible rfl); rotate_left; (exact put_q)
      refine take_ (i := 9) (N := some 16) (v := ?_) (a' := ?_) (bL 12 1023) rfl rfl (take_ofW HT_.out HW_.out (by kernel_rfl)) (fun _ _ _ h => h) (Or.inl ⟨by rfl, ?_⟩) hHeld ?_ ?_; rotate_left; (rintro w' ⟨s0, s1, s2, s3, s4, s5, s6, s7, s8, s9, s10, s11, s12, s13, s14, s15⟩; go_simp; with_reducible rfl); rotate_left; (exact put_q)
      refine one_ (i := 10) (N := some 17) (bL 12 2047) rfl rfl (one_of HT_.out (by kernel_rfl)) (by decide) (fun K hK => ?_)
      refine goes_ Try.func68 (by kernel_rfl) rfl #[.agg #[.int .i64 ((rd_T61 l0 x5_1).f0), .int .i64 ((rd_T61 l0 x5_1).f1), .int .i64 ((rd_T61 l0 x5_1).f2), .int .i64 ((rd_T61 l0 x5_1).f3), .int .i64 ((rd_T61 l0 x5_1).f4), .slice A616_5 ((rd_T61 l0 x5_1).f5).length c616_5, .int .i64 ((rd_T61 l0 x5_1).f6), .bool ((rd_T61 l0 x5_1).f7)], .agg #[.int .i64 a1_0, .int .i64 a1_1, .int .i64 a1_2, .int .i64 a1_3, .int .i64 a1_4, .slice A1_5 l1_5.length c1_5, .int .i64 a1_6, .bool a1_7]] (by rfl) rfl rfl mp_q ?_
      with_reducible refine (impl_Before.calls ((rd_T61 l0 x5_1).f0) ((rd_T61 l0 x5_1).f1) ((rd_T61 l0 x5_1).f2) ((rd_T61 l0 x5_1).f3) ((rd_T61 l0 x5_1).f4) _ _ ((rd_T61 l0 x5_1).f5) ((rd_T61 l0 x5_1).f6) ((rd_T61 l0 x5_1).f7) a1_0 a1_1 a1_2 a1_3 a1_4 _ _ l1_5 a1_6 a1_7 t617 _ ?side1 ?side2 ?side3 ?side4 A7.out).mono ?_
      (case side1 => exact cs_q (Kd.C_below HR616_5.out HB.out))
      (case side2 => exact HC616_5.out)
      (case side3 => exact cs_q (Kd.C_below HR1_5.out HB.out))
      (case side4 => exact HC1_5.out)
      rintro e w10 ⟨rfl, hb⟩
      refine ⟨_, rfl, ?_⟩
      replace BK615 := Aside0.mk (blk_below (g := gb615) (bk_q BK615) hb)
      replace HB := Aside0.mk (below_step (bw_q HB) hb)
      (try clear hb)
      (try clear hb2)
      (try clear hk)
      (try clear hi)
      refine hK.out _ _ ⟨(blk_cell BK615.out 0).trans rfl, (blk_cell BK615.out 1).trans rfl, (blk_cell BK615.out 2).trans rfl, (blk_cell BK615.out 3).trans rfl, (blk_cell BK615.out 4).trans rfl, (blk_cell BK615.out 5).trans rfl, (blk_cell BK615.out 6).trans rfl, (blk_cell BK615.out 7).trans rfl, ((HB.out.cell (World.block_lt_of_cell? w _ hw616_0)).trans hw616_0), ((HB.out.cell (World.block_lt_of_cell? w _ hw616_1)).trans hw616_1), ((HB.out.cell (World.block_lt_of_cell? w _ hw616_2)).trans hw616_2), ((HB.out.cell (World.block_lt_of_cell? w _ hw616_3)).trans hw616_3), ((HB.out.cell (World.block_lt_of_cell? w _ hw616_4)).trans hw616_4), ((HB.out.cell (World.block_lt_of_cell? w _ hw616_5)).trans hw616_5), ((HB.out.cell (World.block_lt_of_cell? w _ hw616_6)).trans hw616_6), ((HB.out.cell (World.block_lt_of_cell? w _ hw616_7)).trans hw616_7)⟩ (fun hHeld => ?_)
      clear hK K
      refine norm_ (a' := ?_) ?_ ?_; rotate_left; (show Act.put _ (some 17) _ = _; simp only [Act.put, List.setIfInBounds_toArray, List.set_cons_zero, List.set_cons_succ, i64_w, i32_w]; rfl)
      refine pq_ 11 18 (bL 12 4095) HT_.out rfl rfl ?_
      have H := HZ17.out
      clear HZ17
      by_cases c8 : t617 = true
      ·subst c8
       have H1 : (impl_put.l0 k1 l0 (wrap64 (x5_1 + 1)) a1_0 a1_1 a1_2 a1_3 a1_4 l1_5 a1_6 a1_7) = some r := by rw [if_pos rfl] at H; exact H
       clear H
       have H := H1
       clear H1
       have H' := Aside0.mk H
       clear H
       refine done_ (done_of HT_.out (by kernel_rfl)) ?_
       try go_wp2
       go_roundg k1
       case measure => have := HK1.out; omega
       case rel => exact ⟨(wrap64 (x5_1 + 1)), (by first | rfl | (simp; done) | (simp [*]; done)), H', ⟨by have := HK1.out; omega⟩, ⟨by refine bz_ ?_; exact BK615.out⟩, ⟨bw_q HB⟩⟩
      ·replace c8 := Bool.eq_false_iff.mpr c8
       subst c8
       have H1 : (impl_put.j1 k1 l0 x5_1 a1_0 a1_1 a1_2 a1_3 a1_4 l1_5 a1_6 a1_7) = some r := by rw [if_neg (show ¬ (false = true) by decide)] at H; exact H
       clear H
       have H := H1
       clear H1
       have H' := Aside0.mk H
       clear H
       refine done_ (done_of HT_.out (by kernel_rfl)) ?_
       try go_wp2
       go_meet
       case rel => exact ⟨_, (x5_1), (by first | rfl | (simp; done) | (simp [*]; done)), H', ⟨by have := HK1.out; first | omega | exact Nat.le_refl _⟩, ⟨by refine bz_ ?_; exact BK615.out⟩, ⟨bw_q HB⟩⟩
     ·rw [if_neg c6] at H
      exact absurd H (by simp)
    ·rw [if_neg c5] at H
     have c5b0 : decide (x5_1 < (l0.length : Int)) = false := decide_eq_false c5
     clear c5
     (first | rw [c5b0] | rw [c5b1] | (simp only [i64_w, i32_w]; first | rw [c5b0] | rw [c5b1]) | skip)
     have H' := Aside0.mk H
     clear H
     try go_wp2
     replace BK615 := Aside0.mk (blk_drew BK615.out)
     replace HB := Aside0.mk (below_drew1 HB.out)
     refine start_ (n := 12) (S := fun w' => True) (ds := []) (bL 12 0) (by kernel_rfl) rfl rfl trivial (fun hHeld => ?_); refine with_tabW impl_put.tab2 impl_put.bits2 (fun HT_ HW_ => ?_)
     generalize wr.drew = w13 at BK615 HB hHeld ⊢
     refine pq_ 0 7 (bL 12 1) HT_.out rfl rfl ?_
     refine pq_ 1 8 (bL 12 3) HT_.out rfl rfl ?_
     refine pq_ 2 9 (bL 12 7) HT_.out rfl rfl ?_
     refine pq_ 3 10 (bL 12 15) HT_.out rfl rfl ?_
     refine pq_ 4 11 (bL 12 31) HT_.out rfl rfl ?_
     refine pu_ 5 12 (bL 12 63) HT_.out rfl rfl ?_
     refine pu_ 6 13 (bL 12 127) HT_.out rfl rfl ?_
     refine pu_ 7 14 (bL 12 255) HT_.out rfl rfl ?_
     refine pu_ 8 15 (bL 12 511) HT_.out rfl rfl ?_
     refine pu_ 9 16 (bL 12 1023) HT_.out rfl rfl ?_
     refine pu_ 10 17 (bL 12 2047) HT_.out rfl rfl ?_
     refine pq_ 11 18 (bL 12 4095) HT_.out rfl rfl ?_
     refine done_ (done_of HT_.out (by kernel_rfl)) ?_
     try go_wp2
     go_meet
     case rel => exact ⟨_, (x5_1), (by first | rfl | (simp; done) | (simp [*]; done)), H', ⟨by have := HK1.out; first | omega | exact Nat.le_refl _⟩, ⟨by refine bz_ ?_; exact BK615.out⟩, ⟨bw_q HB⟩⟩
 case rest =>
  clear HC3
  try clear c1
  try clear p2
  try clear c5
  try clear c5b0
  try clear c5b1
  try clear c6
  try clear c6b0
  try clear p6
  try clear q6
  try clear hx6
  try clear c8
  try clear c11
  try clear hx616_0
  try clear hx616_1
  try clear hx616_2
  try clear hx616_3
  try clear hx616_4
  try clear hx616_5
  try clear hx616_6
  try clear hx616_7
  try clear p2
  try clear p616
  try clear q616
  obtain ⟨kq, x5_2, rfl, HA, HJ2, BK615, HB⟩ := hcut
  cases kq with
  | zero => exact absurd HA.out (by simp [impl_put.j1])
  | succ kj2 =>
   have H := HA.out
   clear HA
   simp only [impl_put.j1] at H
   by_cases c14 : 0 ≤ x5_2
   ·rw [if_pos c14] at H
    have c14b0 := eq_true c14
    have c14b1 : decide (0 ≤ x5_2) = true := decide_eq_true c14
    clear c14
    by_cases c15 : x5_2 ≤ (l0.length : Int)
    ·rw [if_pos c15] at H
     have c15b0 := eq_true c15
     have c15b1 : decide (x5_2 ≤ (l0.length : Int)) = true := decide_eq_true c15
     clear c15
     obtain ⟨y618, hy618⟩ : ∃ y_ : List (S61), y_ = (l0.take (x5_2 : Int).toNat) := ⟨_, rfl⟩
     replace H : ((impl_copyRecords.f kj2 y618).bind fun t622 => ((impl_copyRecord.f a1_0 a1_1 a1_2 a1_3 a1_4 l1_5 a1_6 a1_7).bind fun bt625 => (if t622.length < 1759218604441 then ((some (t622 ++ [(⟨bt625.1, bt625.2.1, bt625.2.2.1, bt625.2.2.2.1, bt625.2.2.2.2.1, bt625.2.2.2.2.2.1, bt625.2.2.2.2.2.2.1, bt625.2.2.2.2.2.2.2⟩ : S61)] : List (S61))).bind fun y635 => (if x5_2 < (l0.length : Int) then ((impl_SameKey.f ((rd_T61 l0 x5_2).f0) ((rd_T61 l0 x5_2).f1) ((rd_T61 l0 x5_2).f2) ((rd_T61 l0 x5_2).f3) ((rd_T61 l0 x5_2).f4) ((rd_T61 l0 x5_2).f5) ((rd_T61 l0 x5_2).f6) ((rd_T61 l0 x5_2).f7) a1_0 a1_1 a1_2 a1_3 a1_4 l1_5 a1_6 a1_7).bind fun t639 => (if t639 = true then (if 0 ≤ (wrap64 (x5_2 + 1)) then (if (wrap64 (x5_2 + 1)) ≤ (l0.length : Int) then ((impl_copyRecords.f kj2 (l0.drop ((wrap64 (x5_2 + 1)) : Int).toNat)).bind fun t644 => (if y635.length + t644.length < 1759218604441 then (some (y635 ++ t644)) else (none))) else (none)) else (none)) else ((impl_copyRecords.f kj2 (l0.drop (x5_2 : Int).toNat)).bind fun t654 => (if y635.length + t654.length < 1759218604441 then (some (y635 ++ t654)) else (none))))) else ((impl_copyRecords.f kj2 (l0.drop (x5_2 : Int).toNat)).bind fun t664 => (if y635.length + t664.length < 1759218604441 then (some (y635 ++ t664)) else (none))))) else (none)))) = some r := by first | (rw [hy618]; with_reducible exact H) | (have H2_ := (Option.bind_some _ _).symm.trans H; rw [hy618]; with_reducible exact H2_) | (have H2_ := (Option.bind_some _ _).symm.trans H; with_reducible exact H2_) | with_reducible exact H | (rw [hy618]; exact H) | exact H
     have Ny618 := Aside0.mk hy618
     clear hy618
     replace H := Option.bind_eq_some_iff.mp H
     obtain ⟨t622, A160, H⟩ := H
     replace H : ((impl_copyRecord.f a1_0 a1_1 a1_2 a1_3 a1_4 l1_5 a1_6 a1_7).bind fun bt625 => (if t622.length < 1759218604441 then ((some (t622 ++ [(⟨bt625.1, bt625.2.1, bt625.2.2.1, bt625.2.2.2.1, bt625.2.2.2.2.1, bt625.2.2.2.2.2.1, bt625.2.2.2.2.2.2.1, bt625.2.2.2.2.2.2.2⟩ : S61)] : List (S61))).bind fun y635 => (if x5_2 < (l0.length : Int) then ((impl_SameKey.f ((rd_T61 l0 x5_2).f0) ((rd_T61 l0 x5_2).f1) ((rd_T61 l0 x5_2).f2) ((rd_T61 l0 x5_2).f3) ((rd_T61 l0 x5_2).f4) ((rd_T61 l0 x5_2).f5) ((rd_T61 l0 x5_2).f6) ((rd_T61 l0 x5_2).f7) a1_0 a1_1 a1_2 a1_3 a1_4 l1_5 a1_6 a1_7).bind fun t639 => (if t639 = true then (if 0 ≤ (wrap64 (x5_2 + 1)) then (if (wrap64 (x5_2 + 1)) ≤ (l0.length : Int) then ((impl_copyRecords.f kj2 (l0.drop ((wrap64 (x5_2 + 1)) : Int).toNat)).bind fun t644 => (if y635.length + t644.length < 1759218604441 then (some (y635 ++ t644)) else (none))) else (none)) else (none)) else ((impl_copyRecords.f kj2 (l0.drop (x5_2 : Int).toNat)).bind fun t654 => (if y635.length + t654.length < 1759218604441 then (some (y635 ++ t654)) else (none))))) else ((impl_copyRecords.f kj2 (l0.drop (x5_2 : Int).toNat)).bind fun t664 => (if y635.length + t664.length < 1759218604441 then (some (y635 ++ t664)) else (none))))) else (none))) = some r := H
     have A16 := Aside0.mk A160
     clear A160
     replace H := Option.bind_eq_some_iff.mp H
     obtain ⟨⟨t625, t626, t627, t628, t629, t630, t633, t634⟩, A170, H⟩ := H
     replace H : (if t622.length < 1759218604441 then ((some (t622 ++ [(⟨t625, t626, t627, t628, t629, t630, t633, t634⟩ : S61)] : List (S61))).bind fun y635 => (if x5_2 < (l0.length : Int) then ((impl_SameKey.f ((rd_T61 l0 x5_2).f0) ((rd_T61 l0 x5_2).f1) ((rd_T61 l0 x5_2).f2) ((rd_T61 l0 x5_2).f3) ((rd_T61 l0 x5_2).f4) ((rd_T61 l0 x5_2).f5) ((rd_T61 l0 x5_2).f6) ((rd_T61 l0 x5_2).f7) a1_0 a1_1 a1_2 a1_3 a1_4 l1_5 a1_6 a1_7).bind fun t639 => (if t639 = true then (if 0 ≤ (wrap64 (x5_2 + 1)) then (if (wrap64 (x5_2 + 1)) ≤ (l0.length : Int) then ((impl_copyRecords.f kj2 (l0.drop ((wrap64 (x5_2 + 1)) : Int).toNat)).bind fun t644 => (if y635.length + t644.length < 1759218604441 then (some (y635 ++ t644)) else (none))) else (none)) else (none)) else ((impl_copyRecords.f kj2 (l0.drop (x5_2 : Int).toNat)).bind fun t654 => (if y635.length + t654.length < 1759218604441 then (some (y635 ++ t654)) else (none))))) else ((impl_copyRecords.f kj2 (l0.drop (x5_2 : Int).toNat)).bind fun t664 => (if y635.length + t664.length < 1759218604441 then (some (y635 ++ t664)) else (none))))) else (none)) = some r := H
     have A17 := Aside0.mk A170
     clear A170
     by_cases c18 : t622.length < 1759218604441
     ·rw [if_pos c18] at H
      have LMc18 := Aside0.mk c18
      clear c18
      obtain ⟨y635, hy635⟩ : ∃ y_ : List (S61), y_ = (t622 ++ [(⟨t625, t626, t627, t628, t629, t630, t633, t634⟩ : S61)]) := ⟨_, rfl⟩
      replace H : (if x5_2 < (l0.length : Int) then ((impl_SameKey.f ((rd_T61 l0 x5_2).f0) ((rd_T61 l0 x5_2).f1) ((rd_T61 l0 x5_2).f2) ((rd_T61 l0 x5_2).f3) ((rd_T61 l0 x5_2).f4) ((rd_T61 l0 x5_2).f5) ((rd_T61 l0 x5_2).f6) ((rd_T61 l0 x5_2).f7) a1_0 a1_1 a1_2 a1_3 a1_4 l1_5 a1_6 a1_7).bind fun t639 => (if t639 = true then (if 0 ≤ (wrap64 (x5_2 + 1)) then (if (wrap64 (x5_2 + 1)) ≤ (l0.length : Int) then ((impl_copyRecords.f kj2 (l0.drop ((wrap64 (x5_2 + 1)) : Int).toNat)).bind fun t644 => (if y635.length + t644.length < 1759218604441 then (some (y635 ++ t644)) else (none))) else (none)) else (none)) else ((impl_copyRecords.f kj2 (l0.drop (x5_2 : Int).toNat)).bind fun t654 => (if y635.length + t654.length < 1759218604441 then (some (y635 ++ t654)) else (none))))) else ((impl_copyRecords.f kj2 (l0.drop (x5_2 : Int).toNat)).bind fun t664 => (if y635.length + t664.length < 1759218604441 then (some (y635 ++ t664)) else (none)))) = some r := by first | (rw [hy635]; with_reducible exact H) | (have H2_ := (Option.bind_some _ _).symm.trans H; rw [hy635]; with_reducible exact H2_) | (have H2_ := (Option.bind_some _ _).symm.trans H; with_reducible exact H2_) | with_reducible exact H | (rw [hy635]; exact H) | exact H
      have Ny635 := Aside0.mk hy635
      clear hy635
      by_cases c19 : x5_2 < (l0.length : Int)
      ·rw [if_pos c19] at H
       have c19b0 : decide (x5_2 < (l0.length : Int)) = true := decide_eq_true c19
       clear c19
       replace H := Option.bind_eq_some_iff.mp H
       obtain ⟨t639, A200, H⟩ := H
       replace H : (if t639 = true then (if 0 ≤ (wrap64 (x5_2 + 1)) then (if (wrap64 (x5_2 + 1)) ≤ (l0.length : Int) then ((impl_copyRecords.f kj2 (l0.drop ((wrap64 (x5_2 + 1)) : Int).toNat)).bind fun t644 => (if y635.length + t644.length < 1759218604441 then (some (y635 ++ t644)) else (none))) else (none)) else (none)) else ((impl_copyRecords.f kj2 (l0.drop (x5_2 : Int).toNat)).bind fun t654 => (if y635.length + t654.length < 1759218604441 then (some (y635 ++ t654)) else (none)))) = some r := H
       have A20 := Aside0.mk A200
       clear A200
       by_cases c21 : t639 = true
       ·subst c21
        have H1 : (if 0 ≤ (wrap64 (x5_2 + 1)) then (if (wrap64 (x5_2 + 1)) ≤ (l0.length : Int) then ((impl_copyRecords.f kj2 (l0.drop ((wrap64 (x5_2 + 1)) : Int).toNat)).bind fun t644 => (if y635.length + t644.length < 1759218604441 then (some (y635 ++ t644)) else (none))) else (none)) else (none)) = some r := by rw [if_pos rfl] at H; exact H
        clear H
        have H := H1
        clear H1
        obtain ⟨ji22, hji22⟩ : ∃ j_ : Int, (wrap64 (x5_2 + 1)) = j_ := ⟨_, rfl⟩
        replace H : (if 0 ≤ (ji22) then (if (ji22) ≤ (l0.length : Int) then ((impl_copyRecords.f kj2 (l0.drop ((ji22) : Int).toNat)).bind fun t644 => (if y635.length + t644.length < 1759218604441 then (some (y635 ++ t644)) else (none))) else (none)) else (none)) = some r := by first | (rw [hji22] at H; exact H) | (simp only [hji22] at H ⊢; exact H)
        (try rw [hji22] at A16)
        (try rw [hji22] at A17)
        (try rw [hji22] at A20)
        have hji22w : (IntKind.i64.wrap (x5_2 + 1)) = ji22 := (i64_w _).trans hji22
        by_cases c23 : 0 ≤ (ji22)
        ·rw [if_pos c23] at H
         have c23b0 := eq_true c23
         have c23b1 : decide (0 ≤ (ji22)) = true := decide_eq_true c23
         clear c23
         by_cases c24 : (ji22) ≤ (l0.length : Int)
         ·rw [if_pos c24] at H
          have c24b0 := eq_true c24
          have c24b1 : decide ((ji22) ≤ (l0.length : Int)) = true := decide_eq_true c24
          clear c24
          obtain ⟨y640, hy640⟩ : ∃ y_ : List (S61), y_ = (l0.drop ((ji22) : Int).toNat) := ⟨_, rfl⟩
          replace H : ((impl_copyRecords.f kj2 y640).bind fun t644 => (if y635.length + t644.length < 1759218604441 then (some (y635 ++ t644)) else (none))) = some r := by first | (rw [hy640]; with_reducible exact H) | (have H2_ := (Option.bind_some _ _).symm.trans H; rw [hy640]; with_reducible exact H2_) | (have H2_ := (Option.bind_some _ _).symm.trans H; with_reducible exact H2_) | with_reducible exact H | (rw [hy640]; exact H) | exact H
          have Ny640 := Aside0.mk hy640
          clear hy640
          replace H := Option.bind_eq_some_iff.mp H
          obtain ⟨t644, A250, H⟩ := H
          replace H : (if y635.length + t644.length < 1759218604441 then (some (y635 ++ t644)) else (none)) = some r := H
          have A25 := Aside0.mk A250
          clear A250
          by_cases c26 : y635.length + t644.length < 1759218604441
          ·rw [if_pos c26] at H
           have LMc26 := Aside0.mk c26
           clear c26
           obtain ⟨y647, hy647⟩ : ∃ y_ : List (S61), y_ = (y635 ++ t644) := ⟨_, rfl⟩
           replace H : (some y647) = some r := by first | (rw [hy647]; with_reducible exact H) | (have H2_ := (Option.bind_some _ _).symm.trans H; rw [hy647]; with_reducible exact H2_) | (have H2_ := (Option.bind_some _ _).symm.trans H; with_reducible exact H2_) | with_reducible exact H | (rw [hy647]; exact H) | exact H
           have Ny647 := Aside0.mk hy647
           clear hy647
           obtain rfl := Option.some.inj H
           try go_wp2
           replace BK615 := Aside0.mk (blk_drew BK615.out)
           replace HB := Aside0.mk (below_drew1 HB.out)
           have q28 : (x5_2 : Int) ≤ ((l0.length : Int) : Int) := of_decide_eq_true as_q
           obtain ⟨i028, hi028, _, hsz28, _⟩ := info_parts info61
           have hroom28 : l0.length ≤ c0 := HC0.out
           have hC28 : Kd.C k61 _ A0 l0.length l0 := HR0.out
           have hcut28 := cut_to (P := Try.prog) 41 61 .i64 Try.underlying41 hi028 A0 l0.length c0 x5_2 (of_decide_eq_true as_q) q28 hroom28
           have hr28 := Kd.C_take (m := (x5_2 : Int).toNat) hC28 (by omega)
           have hy28 : y618.length = (x5_2 : Int).toNat := (by rw [Ny618.out, List.length_take]; omega)
           rw [← Ny618.out] at hr28
           rw [← hy28] at hcut28
           have HR621 := Aside0.mk hr28
           have HC621 := Aside0.mk (show y618.length ≤ c0 from by omega)
           clear hr28 hC28 hroom28 hi028 hsz28
           have KY28 := Aside0.mk hy28
           clear hy28
           replace q28 := eq_true q28
           refine start_ (n := 9) (S := fun w' => w'.cell? ⟨gb615, 0, none⟩ = some (.int .i64 a1_0) ∧ w'.cell? ⟨gb615, 1, none⟩ = some (.int .i64 a1_1) ∧ w'.cell? ⟨gb615, 2, none⟩ = some (.int .i64 a1_2) ∧ w'.cell? ⟨gb615, 3, none⟩ = some (.int .i64 a1_3) ∧ w'.cell? ⟨gb615, 4, none⟩ = some (.int .i64 a1_4) ∧ w'.cell? ⟨gb615, 5, none⟩ = some (.slice A1_5 l1_5.length c1_5) ∧ w'.cell? ⟨gb615, 6, none⟩ = some (.int .i64 a1_6) ∧ w'.cell? ⟨gb615, 7, none⟩ = some (.bool a1_7)) (ds := []) (bL 9 0) (by kernel_rfl) rfl rfl ⟨(blk_cell BK615.out 0).trans rfl, (blk_cell BK615.out 1).trans rfl, (blk_cell BK615.out 2).trans rfl, (blk_cell BK615.out 3).trans rfl, (blk_cell BK615.out 4).trans rfl, (blk_cell BK615.out 5).trans rfl, (blk_cell BK615.out 6).trans rfl, (blk_cell BK615.out 7).trans rfl⟩ (fun hHeld => ?_); refine with_tabW impl_put.tab4 impl_put.bits4 (fun HT_ HW_ => ?_)
           generalize wc.drew = w27 at BK615 HB HR621 hHeld ⊢
           refine pq_ 0 21 (bL 9 1) HT_.out rfl rfl ?_
           refine pq_ 1 22 (bL 9 3) HT_.out rfl rfl ?_
           refine pq_ 2 23 (bL 9 7) HT_.out rfl rfl ?_
           refine take_ (i := 4) (N := some 25) (v := ?_) (a' := ?_) (bL 9 23) rfl rfl (take_ofW HT_.out HW_.out (by kernel_rfl)) (fun _ _ _ h => h) (Or.inl ⟨by rfl, ?_⟩) hHeld ?_ ?_; rotate_left; (rintro w' ⟨s0, s1, s2, s3, s4, s5, s6, s7⟩; go_simp; with_reducible rfl); rotate_left; (exact put_q)
           refine one_ (i := 3) (N := some 24) (bL 9 31) rfl rfl (one_of HT_.out (by kernel_rfl)) (by decide) (fun K hK => ?_)
           refine goes_ Try.func135 (by kernel_rfl) rfl #[.slice A0 y618.length c0] (by rfl) rfl rfl mp_q ?_
           with_reducible refine (impl_copyRecords.calls kj2 _ _ y618 t622 _ ?side1 ?side2 A16.out).mono ?_
           (case side1 => exact cs_q (Kd.C_below HR621.out HB.out))
           (case side2 => exact HC621.out)
           rintro e w29 ⟨v623, rfl, ho0, hb⟩
           refine ⟨_, rfl, ?_⟩
           have HO624 := Aside0.mk (Kd.S_lower (Kd.S_newB ho0 (g := gb615) (o := .cells #[.int .i64 a1_0, .int .i64 a1_1, .int .i64 a1_2, .int .i64 a1_3, .int .i64 a1_4, .slice A1_5 l1_5.length c1_5, .int .i64 a1_6, .bool a1_7] 61 (0, 0)) (bk_q BK615)) (below_size (bw_q HB)))
           replace BK615 := Aside0.mk (blk_below (g := gb615) (bk_q BK615) hb)
           replace HB := Aside0.mk (below_step (bw_q HB) hb)
           (try clear hb)
           (try clear hb2)
           (try clear hk)
           (try clear hi)
           (try clear ho0)
           refine hK.out _ _ ⟨(blk_cell BK615.out 0).trans rfl, (blk_cell BK615.out 1).trans rfl, (blk_cell BK615.out 2).trans rfl, (blk_cell BK615.out 3).trans rfl, (blk_cell BK615.out 4).trans rfl, (blk_cell BK615.out 5).trans rfl, (blk_cell BK615.out 6).trans rfl, (blk_cell BK615.out 7).trans rfl⟩ (fun hHeld => ?_)
           clear hK K
           refine norm_ (a' := ?_) ?_ ?_; rotate_left; (show Act.put _ (some 24) _ = _; simp only [Act.put, List.setIfInBounds_toArray, List.set_cons_zero, List.set_cons_succ, i64_w, i32_w]; rfl)
           refine one_ (i := 5) (N := some 26) (bL 9 63) rfl rfl (one_of HT_.out (by kernel_rfl)) (by decide) (fun K hK => ?_)
           refine goes_ Try.func108 (by kernel_rfl) rfl #[.agg #[.int .i64 a1_0, .int .i64 a1_1, .int .i64 a1_2, .int .i64 a1_3, .int .i64 a1_4, .slice A1_5 l1_5.length c1_5, .int .i64 a1_6, .bool a1_7]] (by rfl) rfl rfl mp_q ?_
           with_reducible refine (impl_copyRecord.calls a1_0 a1_1 a1_2 a1_3 a1_4 _ _ l1_5 a1_6 a1_7 t625 t626 t627 t628 t629 t630 t633 t634 _ ?side1 ?side2 A17.out).mono ?_
           (case side1 => exact cs_q (Kd.C_below HR1_5.out HB.out))
           (case side2 => exact HC1_5.out)
           rintro e w30 ⟨v631, rfl, ho0, hb⟩
           refine ⟨_, rfl, ?_⟩
           have hs_v631 : (v631 : Value).oneCell' = true := (by first | (have h_ := Kd.R_slice ho0; obtain ⟨A_, c_, e_⟩ := h_; simp [e_, Value.oneCell']) | (have h_ := Kd.S_slice ho0; obtain ⟨A_, c_, e_⟩ := h_; simp [e_, Value.oneCell']) | (have h_ := Kd.N_slice ho0; obtain ⟨A_, c_, e_⟩ := h_; simp [e_, Value.oneCell']) | (have h_ := Kd.V_slice ho0; obtain ⟨A_, c_, e_⟩ := h_; simp [e_, Value.oneCell']))
           have hst_v631 := fun (w_ : World) (a_ : Addr) m_ => run_store Try.prog w_ a_ v631 m_ hs_v631
           replace HO624 := Aside0.mk (Kd.S_elder' (kS_q HO624) (Kd.R_base ho0) hb)
           have HO632 := Aside0.mk (Kd.R_lower ho0 (below_size (bw_q HB)))
           replace BK615 := Aside0.mk (blk_below (g := gb615) (bk_q BK615) hb)
           replace HB := Aside0.mk (below_step (bw_q HB) hb)
           (try clear hb)
           (try clear hb2)
           (try clear hk)
           (try clear hi)
           (try clear ho0)
           obtain ⟨Ao32, co32, eo32⟩ := Kd.R_slice HO632.out
           (first | subst eo32 | (injection eo32 with f1_ f2_ f3_; have f4_ := f1_.symm; have f5_ := f3_.symm; clear f1_ f2_ f3_; subst f4_; subst f5_))
           refine hK.out _ _ ⟨(blk_cell BK615.out 0).trans rfl, (blk_cell BK615.out 1).trans rfl, (blk_cell BK615.out 2).trans rfl, (blk_cell BK615.out 3).trans rfl, (blk_cell BK615.out 4).trans rfl, (blk_cell BK615.out 5).trans rfl, (blk_cell BK615.out 6).trans rfl, (blk_cell BK615.out 7).trans rfl⟩ (fun hHeld => ?_)
           clear hK K
           refine norm_ (a' := ?_) ?_ ?_; rotate_left; (show Act.put _ (some 26) _ = _; simp only [Act.put, List.setIfInBounds_toArray, List.set_cons_zero, List.set_cons_succ, i64_w, i32_w]; rfl)
           refine one_ (i := 6) (N := some 27) (bL 9 127) rfl rfl (one_of HT_.out (by kernel_rfl)) (by decide) (fun K hK => ?_)
           refine value_ (w1 := ?_) (v := ?_) (by rfl) rfl ?_ ?_
           rotate_left 2
           ·go_simp
            constructor
            ·rfl
            ·rfl
           refine hK.out _ _ ⟨(blk_cell (blk_alloc BK615.out _) 0).trans rfl, (blk_cell (blk_alloc BK615.out _) 1).trans rfl, (blk_cell (blk_alloc BK615.out _) 2).trans rfl, (blk_cell (blk_alloc BK615.out _) 3).trans rfl, (blk_cell (blk_alloc BK615.out _) 4).trans rfl, (blk_cell (blk_alloc BK615.out _) 5).trans rfl, (blk_cell (blk_alloc BK615.out _) 6).trans rfl, (blk_cell (blk_alloc BK615.out _) 7).trans rfl⟩ (fun hHeld => ?_)
           clear hK K
           refine norm_ (a' := ?_) ?_ ?_; rotate_left; (show Act.put _ (some 27) _ = _; simp only [Act.put, List.setIfInBounds_toArray, List.set_cons_zero, List.set_cons_succ, i64_w, i32_w]; rfl)
           refine one_ (i := 7) (N := some 28) (bL 9 255) rfl rfl (one_of HT_.out (by kernel_rfl)) (by decide) (fun K hK => ?_)
           refine Kd.S_append_step k61 (w0 := w) w.heap.size (by rfl) (.tmp 24) (.tmp 27) 41 61 (.agg #[(.int .i64 0), (.int .i64 0), (.int .i64 0), (.int .i64 0), (.int .i64 0), (.slice none 0 0), (.int .i64 0), (.bool false)]) 80 rfl Try.underlying41 info61 rfl (by decide) (by omega) v623 t622 (⟨t625, t626, t627, t628, t629, t630, t633, t634⟩ : S61) [.int .i64 t625, .int .i64 t626, .int .i64 t627, .int .i64 t628, .int .i64 t629, .slice Ao32 t630.length co32, .int .i64 t633, .bool t634] (fun k_ => k_ ≠ gb615) (fun k_ => some k_ = (.slice Ao32 t630.length co32 : Value).ownBlock) rfl rfl ?aP (fun k_ hk_ => ((Kd.R_mono (ok' := fun k_ => ((fun k_ => k_ ≠ gb615)) k_ ∧ some k_ ≠ (v623 : Value).ownBlock) (Kd.R_types (Kd.R_apart' (HO632.out) (Kd.S_typed HO624.out) (by decide)) BK615.out (by decide)) (fun k_ hk => ⟨hk.2, hk.1.2⟩))).1 k_ hk_.symm) ?aF ?aO ?aB ?aS ?aL ?_
           (case aP => exact k61_mkM _ _ _ (⟨t625, t626, t627, t628, t629, t630, t633, t634⟩ : S61) (Kd.R_mono (Kd.R_tight rfl (Kd.R_mono (ok' := fun k_ => ((fun k_ => k_ ≠ gb615)) k_ ∧ some k_ ≠ (v623 : Value).ownBlock) (Kd.R_types (Kd.R_apart' (HO632.out) (Kd.S_typed HO624.out) (by decide)) BK615.out (by decide)) (fun k_ hk => ⟨hk.2, hk.1.2⟩))) (fun _ h_ => h_)))
           (case aB => exact (bw_q HB))
           (case aF => exact (fun k_ hk => Kd.freshB (g := gb615) (o := .cells #[.int .i64 a1_0, .int .i64 a1_1, .int .i64 a1_2, .int .i64 a1_3, .int .i64 a1_4, .slice A1_5 l1_5.length c1_5, .int .i64 a1_6, .bool a1_7] 61 (0, 0)) (bk_q BK615) k_ hk))
           (case aO => exact (by (with_reducible repeat (first | apply Kd.S_alloc | apply Kd.S_drewN | apply Kd.S_drew)); exact Kd.S_mono HO624.out (fun k_ hk => ⟨hk.1.2, fun e_ => hk.2 e_⟩)))
           (case aS => exact (below_size (bw_q HB)))
           (case aL => have := LMc18.out; omega)
           intro v636 w31 ho hb hg hat
           rw [← Ny635.out] at ho
           replace BK615 := Aside0.mk (blk_grown (g := gb615) (o := .cells #[.int .i64 a1_0, .int .i64 a1_1, .int .i64 a1_2, .int .i64 a1_3, .int .i64 a1_4, .slice A1_5 l1_5.length c1_5, .int .i64 a1_6, .bool a1_7] 61 (0, 0)) (bk_q BK615) hg (Kd.S_away HO624.out (fun _ hk => hk.1.2)))
           replace HB := Aside0.mk (hb)
           have HO637 := Aside0.mk (ho)
           clear HO624 HO632
           clear ho hb hg hat
           refine hK.out _ _ ⟨(blk_cell BK615.out 0).trans rfl, (blk_cell BK615.out 1).trans rfl, (blk_cell BK615.out 2).trans rfl, (blk_cell BK615.out 3).trans rfl, (blk_cell BK615.out 4).trans rfl, (blk_cell BK615.out 5).trans rfl, (blk_cell BK615.out 6).trans rfl, (blk_cell BK615.out 7).trans rfl⟩ (fun hHeld => ?_)
           clear hK K
           refine norm_ (a' := ?_) ?_ ?_; rotate_left; (show Act.put _ (some 28) _ = _; simp only [Act.put, List.setIfInBounds_toArray, List.set_cons_zero, List.set_cons_succ, i64_w, i32_w]; rfl)
           refine pq_ 8 6 (bL 9 511) HT_.out rfl rfl ?_
           refine done_ (done_of HT_.out (by kernel_rfl)) ?_
           try go_wp2
           replace HO637 := Aside0.mk (Kd.S_drew HO637.out)
           replace BK615 := Aside0.mk (blk_drew BK615.out)
           replace HB := Aside0.mk (below_drew1 HB.out)
           have p638 : 0 ≤ (x5_2 : Int) := of_decide_eq_true as_q
           have q638 : x5_2 < (l0.length : Int) := of_decide_eq_true as_q
           obtain ⟨ad638, A638_5, c638_5, e638, hx638_0, hx638_1, hx638_2, hx638_3, hx638_4, hx638_5, hx638_6, hx638_7, hl638_5, hi638_5⟩ := at_T61 HR0.out x5_2 p638 q638
           have hw638_7 := hx638_7
           have hw638_6 := hx638_6
           have hw638_5 := hx638_5
           have hw638_4 := hx638_4
           have hw638_3 := hx638_3
           have hw638_2 := hx638_2
           have hw638_1 := hx638_1
           have hw638_0 := hx638_0
           cases e638
           replace hx638_0 := (HB.out.cell (World.block_lt_of_cell? w _ hx638_0)).trans hx638_0
           replace hx638_1 := (HB.out.cell (World.block_lt_of_cell? w _ hx638_1)).trans hx638_1
           replace hx638_2 := (HB.out.cell (World.block_lt_of_cell? w _ hx638_2)).trans hx638_2
           replace hx638_3 := (HB.out.cell (World.block_lt_of_cell? w _ hx638_3)).trans hx638_3
           replace hx638_4 := (HB.out.cell (World.block_lt_of_cell? w _ hx638_4)).trans hx638_4
           replace hx638_5 := (HB.out.cell (World.block_lt_of_cell? w _ hx638_5)).trans hx638_5
           replace hx638_6 := (HB.out.cell (World.block_lt_of_cell? w _ hx638_6)).trans hx638_6
           replace hx638_7 := (HB.out.cell (World.block_lt_of_cell? w _ hx638_7)).trans hx638_7
           have HR638_5 := Aside0.mk hi638_5
           have HC638_5 := Aside0.mk hl638_5
           clear hi638_5 hl638_5
           replace p638 := eq_true p638
           replace q638 := eq_true q638
           refine start_ (n := 12) (S := fun w' => w'.cell? ⟨gb615, 0, none⟩ = some (.int .i64 a1_0) ∧ w'.cell? ⟨gb615, 1, none⟩ = some (.int .i64 a1_1) ∧ w'.cell? ⟨gb615, 2, none⟩ = some (.int .i64 a1_2) ∧ w'.cell? ⟨gb615, 3, none⟩ = some (.int .i64 a1_3) ∧ w'.cell? ⟨gb615, 4, none⟩ = some (.int .i64 a1_4) ∧ w'.cell? ⟨gb615, 5, none⟩ = some (.slice A1_5 l1_5.length c1_5) ∧ w'.cell? ⟨gb615, 6, none⟩ = some (.int .i64 a1_6) ∧ w'.cell? ⟨gb615, 7, none⟩ = some (.bool a1_7) ∧ w'.cell? (ad638.add ((x5_2).toNat * 8)) = some (.int .i64 ((rd_T61 l0 x5_2).f0)) ∧ w'.cell? ⟨(ad638.add ((x5_2).toNat * 8)).block, (ad638.add ((x5_2).toNat * 8)).off + 1, none⟩ = some (.int .i64 ((rd_T61 l0 x5_2).f1)) ∧ w'.cell? ⟨(ad638.add ((x5_2).toNat * 8)).block, (ad638.add ((x5_2).toNat * 8)).off + 2, none⟩ = some (.int .i64 ((rd_T61 l0 x5_2).f2)) ∧ w'.cell? ⟨(ad638.add ((x5_2).toNat * 8)).block, (ad638.add ((x5_2).toNat * 8)).off + 3, none⟩ = some (.int .i64 ((rd_T61 l0 x5_2).f3)) ∧ w'.cell? ⟨(ad638.add ((x5_2).toNat * 8)).block, (ad638.add ((x5_2).toNat * 8)).off + 4, none⟩ = some (.int .i64 ((rd_T61 l0 x5_2).f4)) ∧ w'.cell? ⟨(ad638.add ((x5_2).toNat * 8)).block, (ad638.add ((x5_2).toNat * 8)).off + 5, none⟩ = some (.slice A638_5 ((rd_T61 l0 x5_2).f5).length c638_5) ∧ w'.cell? ⟨(ad638.add ((x5_2).toNat * 8)).block, (ad638.add ((x5_2).toNat * 8)).off + 6, none⟩ = some (.int .i64 ((rd_T61 l0 x5_2).f6)) ∧ w'.cell? ⟨(ad638.add ((x5_2).toNat * 8)).block, (ad638.add ((x5_2).toNat * 8)).off + 7, none⟩ = some (.bool ((rd_T61 l0 x5_2).f7))) (ds := []) (bL 12 0) (by kernel_rfl) rfl rfl ⟨(blk_cell BK615.out 0).trans rfl, (blk_cell BK615.out 1).trans rfl, (blk_cell BK615.out 2).trans rfl, (blk_cell BK615.out 3).trans rfl, (blk_cell BK615.out 4).trans rfl, (blk_cell BK615.out 5).trans rfl, (blk_cell BK615.out 6).trans rfl, (blk_cell BK615.out 7).trans rfl, ((HB.out.cell (World.block_lt_of_cell? w _ hw638_0)).trans hw638_0), ((HB.out.cell (World.block_lt_of_cell? w _ hw638_1)).trans hw638_1), ((HB.out.cell (World.block_lt_of_cell? w _ hw638_2)).trans hw638_2), ((HB.out.cell (World.block_lt_of_cell? w _ hw638_3)).trans hw638_3), ((HB.out.cell (World.block_lt_of_cell? w _ hw638_4)).trans hw638_4), ((HB.out.cell (World.block_lt_of_cell? w _ hw638_5)).trans hw638_5), ((HB.out.cell (World.block_lt_of_cell? w _ hw638_6)).trans hw638_6), ((HB.out.cell (World.block_lt_of_cell? w _ hw638_7)).trans hw638_7)⟩ (fun hHeld => ?_); refine with_tabW impl_put.tab5 impl_put.bits5 (fun HT_ HW_ => ?_)
           generalize w31.drew = w33 at HO637 BK615 HB HR638_5 hx638_0 hx638_1 hx638_2 hx638_3 hx638_4 hx638_5 hx638_6 hx638_7 hHeld ⊢
           refine pq_ 0 29 (bL 12 1) HT_.out rfl rfl ?_
           refine pq_ 1 30 (bL 12 3) HT_.out rfl rfl ?_
           refine pq_ 2 31 (bL 12 7) HT_.out rfl rfl ?_
           refine pq_ 3 32 (bL 12 15) HT_.out rfl rfl ?_
           refine pq_ 4 33 (bL 12 31) HT_.out rfl rfl ?_
           refine pq_ 5 34 (bL 12 63) HT_.out rfl rfl ?_
           refine pq_ 6 35 (bL 12 127) HT_.out rfl rfl ?_
           refine pq_ 7 36 (bL 12 255) HT_.out rfl rfl ?_
           refine take_ (i := 8) (N := some 37) (v := ?_) (a' := ?_) (bL 12 511) rfl rfl (take_ofW HT_.out HW_.out (by kernel_rfl)) (fun _ _ _ h => h) (Or.inl ⟨by rfl, ?_⟩) hHeld ?_ ?_; rotate_left; (rintro w' ⟨s0, s1, s2, s3, s4, s5, s6, s7, s8, s9, s10, s11, s12, s13, s14, s15⟩; go_simp; with_reducible rfl); rotate_left; (exact put_q)
           refine take_ (i := 9) (N := some 38) (v := ?_) (a' := ?_) (bL 12 1023) rfl rfl (take_ofW HT_.out HW_.out (by kernel_rfl)) (fun _ _ _ h => h) (Or.inl ⟨by rfl, ?_⟩) hHeld ?_ ?_; rotate_left; (rintro w' ⟨s0, s1, s2, s3, s4, s5, s6, s7, s8, s9, s10, s11, s12, s13, s14, s15⟩; go_simp; with_reducible rfl); rotate_left; (exact put_q)
           refine one_ (i := 10) (N := some 39) (bL 12 2047) rfl rfl (one_of HT_.out (by kernel_rfl)) (by decide) (fun K hK => ?_)
           refine goes_ Try.func69 (by kernel_rfl) rfl #[.agg #[.int .i64 ((rd_T61 l0 x5_2).f0), .int .i64 ((rd_T61 l0 x5_2).f1), .int .i64 ((rd_T61 l0 x5_2).f2), .int .i64 ((rd_T61 l0 x5_2).f3), .int .i64 ((rd_T61 l0 x5_2).f4), .slice A638_5 ((rd_T61 l0 x5_2).f5).length c638_5, .int .i64 ((rd_T61 l0 x5_2).f6), .bool ((rd_T61 l0 x5_2).f7)], .agg #[.int .i64 a1_0, .int .i64 a1_1, .int .i64 a1_2, .int .i64 a1_3, .int .i64 a1_4, .slice A1_5 l1_5.length c1_5, .int .i64 a1_6, .bool a1_7]] (by rfl) rfl rfl mp_q ?_
           with_reducible refine (impl_SameKey.calls ((rd_T61 l0 x5_2).f0) ((rd_T61 l0 x5_2).f1) ((rd_T61 l0 x5_2).f2) ((rd_T61 l0 x5_2).f3) ((rd_T61 l0 x5_2).f4) _ _ ((rd_T61 l0 x5_2).f5) ((rd_T61 l0 x5_2).f6) ((rd_T61 l0 x5_2).f7) a1_0 a1_1 a1_2 a1_3 a1_4 _ _ l1_5 a1_6 a1_7 true _ ?side1 ?side2 ?side3 ?side4 A20.out).mono ?_
           (case side1 => exact cs_q (Kd.C_below HR638_5.out HB.out))
           (case side2 => exact HC638_5.out)
           (case side3 => exact cs_q (Kd.C_below HR1_5.out HB.out))
           (case side4 => exact HC1_5.out)
           rintro e w34 ⟨rfl, hb⟩
           refine ⟨_, rfl, ?_⟩
           replace HO637 := Aside0.mk (Kd.S_below (kS_q HO637) hb)
           replace BK615 := Aside0.mk (blk_below (g := gb615) (bk_q BK615) hb)
           replace HB := Aside0.mk (below_step (bw_q HB) hb)
           (try clear hb)
           (try clear hb2)
           (try clear hk)
           (try clear hi)
           refine hK.out _ _ ⟨(blk_cell BK615.out 0).trans rfl, (blk_cell BK615.out 1).trans rfl, (blk_cell BK615.out 2).trans rfl, (blk_cell BK615.out 3).trans rfl, (blk_cell BK615.out 4).trans rfl, (blk_cell BK615.out 5).trans rfl, (blk_cell BK615.out 6).trans rfl, (blk_cell BK615.out 7).trans rfl, ((HB.out.cell (World.block_lt_of_cell? w _ hw638_0)).trans hw638_0), ((HB.out.cell (World.block_lt_of_cell? w _ hw638_1)).trans hw638_1), ((HB.out.cell (World.block_lt_of_cell? w _ hw638_2)).trans hw638_2), ((HB.out.cell (World.block_lt_of_cell? w _ hw638_3)).trans hw638_3), ((HB.out.cell (World.block_lt_of_cell? w _ hw638_4)).trans hw638_4), ((HB.out.cell (World.block_lt_of_cell? w _ hw638_5)).trans hw638_5), ((HB.out.cell (World.block_lt_of_cell? w _ hw638_6)).trans hw638_6), ((HB.out.cell (World.block_lt_of_cell? w _ hw638_7)).trans hw638_7)⟩ (fun hHeld => ?_)
           clear hK K
           refine norm_ (a' := ?_) ?_ ?_; rotate_left; (show Act.put _ (some 39) _ = _; simp only [Act.put, List.setIfInBounds_toArray, List.set_cons_zero, List.set_cons_succ, i64_w, i32_w]; rfl)
           refine pq_ 11 40 (bL 12 4095) HT_.out rfl rfl ?_
           refine done_ (done_of HT_.out (by kernel_rfl)) ?_
           have q35 : ((ji22) : Int) ≤ ((l0.length : Int) : Int) := of_decide_eq_true as_q
           obtain ⟨i035, hi035, _, hsz35, _⟩ := info_parts info61
           have hroom35 : l0.length ≤ c0 := HC0.out
           have hC35 : Kd.C k61 _ (some ad638) l0.length l0 := HR0.out
           have q035 : (0 : Int) ≤ ((ji22) : Int) := of_decide_eq_true as_q
           have hcut35 := cut_from (P := Try.prog) 41 61 .i64 Try.underlying41 hi035 8 hsz35 (some ad638) l0.length c0 (ji22) q035 q35
           have hr35 := Kd.C_drop (m := ((ji22) : Int).toNat) (c := c0) hC35 (by omega) hroom35
           obtain ⟨A35, hA35⟩ : ∃ A1, A1 = (if c0 = ((ji22) : Int).toNat then (some ad638) else ((some ad638) : Option Addr).map (·.add (((ji22) : Int).toNat * 8))) := ⟨_, rfl⟩
           obtain ⟨c35, hc35⟩ : ∃ c1, c1 = c0 - ((ji22) : Int).toNat := ⟨_, rfl⟩
           have hy35 : y640.length = l0.length - ((ji22) : Int).toNat := (by rw [Ny640.out, List.length_drop] <;> omega)
           rw [show (l0).drop ((ji22) : Int).toNat = y640 from Ny640.out.symm] at hr35
           replace hr35 : Kd.C k61 _ A35 y640.length y640 := (by rw [hA35]; exact hr35)
           rw [← hy35, ← hA35, ← hc35] at hcut35
           have HR643 := Aside0.mk hr35
           have HC643 := Aside0.mk (show y640.length ≤ c35 from by rw [hy35, hc35]; exact Nat.sub_le_sub_right hroom35 _)
           clear hr35 hC35 hroom35 hi035 hsz35 hc35
           have KY35 := Aside0.mk hy35
           have KA35 := Aside0.mk hA35
           clear hy35 hA35
           replace q35 := eq_true q35
           try go_wp2_with (first | ((with_reducible refine gate_callee (f := 135) rfl ?_); refine goesL_ (some 47) rfl rfl Try.func135 (by kernel_rfl) rfl #[.slice A35 y640.length c35] rfl mp_q ?_; (with_reducible refine (impl_copyRecords.calls kj2 _ _ y640 t644 _ ?side1 ?side2 A25.out).mono ?_); (case side1 => exact cs_q (Kd.C_below HR643.out HB.out)); (case side2 => exact HC643.out); rintro e w36 ⟨v645, rfl, ho0, hb⟩; refine ⟨_, rfl, ?_⟩; have HO646 := Aside0.mk (Kd.S_lower (Kd.S_newB (Kd.S_new' ho0 (Kd.S_lt (kS_q HO637))) (g := gb615) (o := .cells #[.int .i64 a1_0, .int .i64 a1_1, .int .i64 a1_2, .int .i64 a1_3, .int .i64 a1_4, .slice A1_5 l1_5.length c1_5, .int .i64 a1_6, .bool a1_7] 61 (0, 0)) (bk_q BK615)) (below_size (bw_q HB))); have HSX := Aside0.mk (Kd.S_mono (ok' := fun k_ => (k_ ≠ gb615) ∧ k_ < w34.heap.size) (Kd.S_old (kS_q HO637) hb) (fun _ hk_ => hk_)); have HSY := Aside0.mk (Kd.S_mono (ok' := fun k_ => w34.heap.size ≤ k_) (Kd.S_lower (Kd.S_bound ho0) (below_size (bw_q HB))) (fun _ hk_ => hk_.2.1)); have HSK := Aside0.mk ((fun k_ hk_ => And.intro (Kd.freshB (g := gb615) (o := .cells #[.int .i64 a1_0, .int .i64 a1_1, .int .i64 a1_2, .int .i64 a1_3, .int .i64 a1_4, .slice A1_5 l1_5.length c1_5, .int .i64 a1_6, .bool a1_7] 61 (0, 0)) (bk_q BK615) k_ hk_) (Kd.fresh' (Kd.S_lt (kS_q HO637)) k_ hk_) : ∀ k_, w34.heap.size ≤ k_ → (k_ ≠ gb615) ∧ some k_ ≠ (v636 : Value).ownBlock)); replace HO637 := Aside0.mk (Kd.S_elder' (kS_q HO637) (Kd.S_base ho0) hb); replace BK615 := Aside0.mk (blk_below (g := gb615) (bk_q BK615) hb); replace HB := Aside0.mk (below_step (bw_q HB) hb); (try clear hb); (try clear hb2); (try clear hk); (try clear hi); (try clear ho0); obtain ⟨Ao38, co38, eo38⟩ := Kd.S_slice HO646.out; subst eo38) | ((with_reducible refine gate_builtin (b := .append) (xs := #[.tmp 43, .tmp 47]) rfl ?_); at_builtin; refine Kd.S_append_rows k61 (w0 := w) w.heap.size rfl (.tmp 43) (.tmp 47) 41 61 (.agg #[(.int .i64 0), (.int .i64 0), (.int .i64 0), (.int .i64 0), (.int .i64 0), (.slice none 0 0), (.int .i64 0), (.bool false)]) 80 rfl Try.underlying41 info61 rfl (by decide) (by omega) v636 y635 t644 _ _ _ (fun k_ => k_ ≠ gb615) (fun k_ => (k_ ≠ gb615) ∧ k_ < w34.heap.size) (fun k_ => w34.heap.size ≤ k_) rfl rfl ?aO ?aR (fun k_ hk => hk.1) (fun k_ h1 h2 => Nat.not_le.2 h2.2 h1) (fun k_ hk => HSK.out k_ hk) ?aF ?aB ?aS ?aL ?_; (case aR => exact (kS_q HSY)); (case aB => exact (bw_q HB)); (case aF => exact (fun k_ hk => Kd.freshB (g := gb615) (o := .cells #[.int .i64 a1_0, .int .i64 a1_1, .int .i64 a1_2, .int .i64 a1_3, .int .i64 a1_4, .slice A1_5 l1_5.length c1_5, .int .i64 a1_6, .bool a1_7] 61 (0, 0)) (bk_q BK615) k_ hk)); (case aO => exact (kS_q HSX)); (case aS => exact (below_size (bw_q HB))); (case aL => have := LMc26.out; omega); intro v648 w37 ho hb hg hat; rw [← Ny647.out] at ho; replace BK615 := Aside0.mk (blk_grown (g := gb615) (o := .cells #[.int .i64 a1_0, .int .i64 a1_1, .int .i64 a1_2, .int .i64 a1_3, .int .i64 a1_4, .slice A1_5 l1_5.length c1_5, .int .i64 a1_6, .bool a1_7] 61 (0, 0)) (bk_q BK615) hg (Kd.S_away HO637.out (fun _ hk => hk.1))); replace HB := Aside0.mk (hb); have HO649 := Aside0.mk (ho); clear HO637 HO646; clear ho hb hg hat))
           go_ret
           exact ⟨_, by first | rfl | (simp [errW_none, errW_some] <;> rfl) | (simp only [← hji22]; first | rfl | (simp [errW_none, errW_some] <;> rfl)) | (simp [*, errW_none, errW_some] <;> rfl), by (with_reducible repeat (first | apply Kd.S_alloc | apply Kd.S_drewN | apply Kd.S_drew)); exact Kd.S_mono HO649.out (fun _ hk => trivial), bw_q HB⟩
          ·rw [if_neg c26] at H
           exact absurd H (by simp)
         ·rw [if_neg c24] at H
          exact absurd H (by simp)
        ·rw [if_neg c23] at H
         exact absurd H (by simp)
       ·replace c21 := Bool.eq_false_iff.mpr c21
        subst c21
        have H1 : ((impl_copyRecords.f kj2 (l0.drop (x5_2 : Int).toNat)).bind fun t654 => (if y635.length + t654.length < 1759218604441 then (some (y635 ++ t654)) else (none))) = some r := by rw [if_neg (show ¬ (false = true) by decide)] at H; exact H
        clear H
        have H := H1
        clear H1
        have c39b0 := eq_true (of_decide_eq_true as_q : 0 ≤ x5_2)
        have c40b0 := eq_true (of_decide_eq_true as_q : x5_2 ≤ (l0.length : Int))
        obtain ⟨y650, hy650⟩ : ∃ y_ : List (S61), y_ = (l0.drop (x5_2 : Int).toNat) := ⟨_, rfl⟩
        replace H : ((impl_copyRecords.f kj2 y650).bind fun t654 => (if y635.length + t654.length < 1759218604441 then (some (y635 ++ t654)) else (none))) = some r := by first | (rw [hy650]; with_reducible exact H) | (have H2_ := (Option.bind_some _ _).symm.trans H; rw [hy650]; with_reducible exact H2_) | (have H2_ := (Option.bind_some _ _).symm.trans H; with_reducible exact H2_) | with_reducible exact H | (rw [hy650]; exact H) | exact H
        have Ny650 := Aside0.mk hy650
        clear hy650
        replace H := Option.bind_eq_some_iff.mp H
        obtain ⟨t654, A410, H⟩ := H
        replace H : (if y635.length + t654.length < 1759218604441 then (some (y635 ++ t654)) else (none)) = some r := H
        have A41 := Aside0.mk A410
        clear A410
        by_cases c42 : y635.length + t654.length < 1759218604441
        ·rw [if_pos c42] at H
         have LMc42 := Aside0.mk c42
         clear c42
         obtain ⟨y657, hy657⟩ : ∃ y_ : List (S61), y_ = (y635 ++ t654) := ⟨_, rfl⟩
         replace H : (some y657) = some r := by first | (rw [hy657]; with_reducible exact H) | (have H2_ := (Option.bind_some _ _).symm.trans H; rw [hy657]; with_reducible exact H2_) | (have H2_ := (Option.bind_some _ _).symm.trans H; with_reducible exact H2_) | with_reducible exact H | (rw [hy657]; exact H) | exact H
         have Ny657 := Aside0.mk hy657
         clear hy657
         obtain rfl := Option.some.inj H
         try go_wp2
         replace BK615 := Aside0.mk (blk_drew BK615.out)
         replace HB := Aside0.mk (below_drew1 HB.out)
         have q44 : (x5_2 : Int) ≤ ((l0.length : Int) : Int) := of_decide_eq_true as_q
         obtain ⟨i044, hi044, _, hsz44, _⟩ := info_parts info61
         have hroom44 : l0.length ≤ c0 := HC0.out
         have hC44 : Kd.C k61 _ A0 l0.length l0 := HR0.out
         have hcut44 := cut_to (P := Try.prog) 41 61 .i64 Try.underlying41 hi044 A0 l0.length c0 x5_2 (of_decide_eq_true as_q) q44 hroom44
         have hr44 := Kd.C_take (m := (x5_2 : Int).toNat) hC44 (by omega)
         have hy44 : y618.length = (x5_2 : Int).toNat := (by rw [Ny618.out, List.length_take]; omega)
         rw [← Ny618.out] at hr44
         rw [← hy44] at hcut44
         have HR621 := Aside0.mk hr44
         have HC621 := Aside0.mk (show y618.length ≤ c0 from by omega)
         clear hr44 hC44 hroom44 hi044 hsz44
         have KY44 := Aside0.mk hy44
         clear hy44
         replace q44 := eq_true q44
         refine start_ (n := 9) (S := fun w' => w'.cell? ⟨gb615, 0, none⟩ = some (.int .i64 a1_0) ∧ w'.cell? ⟨gb615, 1, none⟩ = some (.int .i64 a1_1) ∧ w'.cell? ⟨gb615, 2, none⟩ = some (.int .i64 a1_2) ∧ w'.cell? ⟨gb615, 3, none⟩ = some (.int .i64 a1_3) ∧ w'.cell? ⟨gb615, 4, none⟩ = some (.int .i64 a1_4) ∧ w'.cell? ⟨gb615, 5, none⟩ = some (.slice A1_5 l1_5.length c1_5) ∧ w'.cell? ⟨gb615, 6, none⟩ = some (.int .i64 a1_6) ∧ w'.cell? ⟨gb615, 7, none⟩ = some (.bool a1_7)) (ds := []) (bL 9 0) (by kernel_rfl) rfl rfl ⟨(blk_cell BK615.out 0).trans rfl, (blk_cell BK615.out 1).trans rfl, (blk_cell BK615.out 2).trans rfl, (blk_cell BK615.out 3).trans rfl, (blk_cell BK615.out 4).trans rfl, (blk_cell BK615.out 5).trans rfl, (blk_cell BK615.out 6).trans rfl, (blk_cell BK615.out 7).trans rfl⟩ (fun hHeld => ?_); refine with_tabW impl_put.tab4 impl_put.bits4 (fun HT_ HW_ => ?_)
         generalize wc.drew = w43 at BK615 HB HR621 hHeld ⊢
         refine pq_ 0 21 (bL 9 1) HT_.out rfl rfl ?_
         refine pq_ 1 22 (bL 9 3) HT_.out rfl rfl ?_
         refine pq_ 2 23 (bL 9 7) HT_.out rfl rfl ?_
         refine take_ (i := 4) (N := some 25) (v := ?_) (a' := ?_) (bL 9 23) rfl rfl (take_ofW HT_.out HW_.out (by kernel_rfl)) (fun _ _ _ h => h) (Or.inl ⟨by rfl, ?_⟩) hHeld ?_ ?_; rotate_left; (rintro w' ⟨s0, s1, s2, s3, s4, s5, s6, s7⟩; go_simp; with_reducible rfl); rotate_left; (exact put_q)
         refine one_ (i := 3) (N := some 24) (bL 9 31) rfl rfl (one_of HT_.out (by kernel_rfl)) (by decide) (fun K hK => ?_)
         refine goes_ Try.func135 (by kernel_rfl) rfl #[.slice A0 y618.length c0] (by rfl) rfl rfl mp_q ?_
         with_reducible refine (impl_copyRecords.calls kj2 _ _ y618 t622 _ ?side1 ?side2 A16.out).mono ?_
         (case side1 => exact cs_q (Kd.C_below HR621.out HB.out))
         (case side2 => exact HC621.out)
         rintro e w45 ⟨v623, rfl, ho0, hb⟩
         refine ⟨_, rfl, ?_⟩
         have HO624 := Aside0.mk (Kd.S_lower (Kd.S_newB ho0 (g := gb615) (o := .cells #[.int .i64 a1_0, .int .i64 a1_1, .int .i64 a1_2, .int .i64 a1_3, .int .i64 a1_4, .slice A1_5 l1_5.length c1_5, .int .i64 a1_6, .bool a1_7] 61 (0, 0)) (bk_q BK615)) (below_size (bw_q HB)))
         replace BK615 := Aside0.mk (blk_below (g := gb615) (bk_q BK615) hb)
         replace HB := Aside0.mk (below_step (bw_q HB) hb)
         (try clear hb)
         (try clear hb2)
         (try clear hk)
         (try clear hi)
         (try clear ho0)
         refine hK.out _ _ ⟨(blk_cell BK615.out 0).trans rfl, (blk_cell BK615.out 1).trans rfl, (blk_cell BK615.out 2).trans rfl, (blk_cell BK615.out 3).trans rfl, (blk_cell BK615.out 4).trans rfl, (blk_cell BK615.out 5).trans rfl, (blk_cell BK615.out 6).trans rfl, (blk_cell BK615.out 7).trans rfl⟩ (fun hHeld => ?_)
         clear hK K
         refine norm_ (a' := ?_) ?_ ?_; rotate_left; (show Act.put _ (some 24) _ = _; simp only [Act.put, List.setIfInBounds_toArray, List.set_cons_zero, List.set_cons_succ, i64_w, i32_w]; rfl)
         refine one_ (i := 5) (N := some 26) (bL 9 63) rfl rfl (one_of HT_.out (by kernel_rfl)) (by decide) (fun K hK => ?_)
         refine goes_ Try.func108 (by kernel_rfl) rfl #[.agg #[.int .i64 a1_0, .int .i64 a1_1, .int .i64 a1_2, .int .i64 a1_3, .int .i64 a1_4, .slice A1_5 l1_5.length c1_5, .int .i64 a1_6, .bool a1_7]] (by rfl) rfl rfl mp_q ?_
         with_reducible refine (impl_copyRecord.calls a1_0 a1_1 a1_2 a1_3 a1_4 _ _ l1_5 a1_6 a1_7 t625 t626 t627 t628 t629 t630 t633 t634 _ ?side1 ?side2 A17.out).mono ?_
         (case side1 => exact cs_q (Kd.C_below HR1_5.out HB.out))
         (case side2 => exact HC1_5.out)
         rintro e w46 ⟨v631, rfl, ho0, hb⟩
         refine ⟨_, rfl, ?_⟩
         have hs_v631 : (v631 : Value).oneCell' = true := (by first | (have h_ := Kd.R_slice ho0; obtain ⟨A_, c_, e_⟩ := h_; simp [e_, Value.oneCell']) | (have h_ := Kd.S_slice ho0; obtain ⟨A_, c_, e_⟩ := h_; simp [e_, Value.oneCell']) | (have h_ := Kd.N_slice ho0; obtain ⟨A_, c_, e_⟩ := h_; simp [e_, Value.oneCell']) | (have h_ := Kd.V_slice ho0; obtain ⟨A_, c_, e_⟩ := h_; simp [e_, Value.oneCell']))
         have hst_v631 := fun (w_ : World) (a_ : Addr) m_ => run_store Try.prog w_ a_ v631 m_ hs_v631
         replace HO624 := Aside0.mk (Kd.S_elder' (kS_q HO624) (Kd.R_base ho0) hb)
         have HO632 := Aside0.mk (Kd.R_lower ho0 (below_size (bw_q HB)))
         replace BK615 := Aside0.mk (blk_below (g := gb615) (bk_q BK615) hb)
         replace HB := Aside0.mk (below_step (bw_q HB) hb)
         (try clear hb)
         (try clear hb2)
         (try clear hk)
         (try clear hi)
         (try clear ho0)
         obtain ⟨Ao48, co48, eo48⟩ := Kd.R_slice HO632.out
         (first | subst eo48 | (injection eo48 with f1_ f2_ f3_; have f4_ := f1_.symm; have f5_ := f3_.symm; clear f1_ f2_ f3_; subst f4_; subst f5_))
         refine hK.out _ _ ⟨(blk_cell BK615.out 0).trans rfl, (blk_cell BK615.out 1).trans rfl, (blk_cell BK615.out 2).trans rfl, (blk_cell BK615.out 3).trans rfl, (blk_cell BK615.out 4).trans rfl, (blk_cell BK615.out 5).trans rfl, (blk_cell BK615.out 6).trans rfl, (blk_cell BK615.out 7).trans rfl⟩ (fun hHeld => ?_)
         clear hK K
         refine norm_ (a' := ?_) ?_ ?_; rotate_left; (show Act.put _ (some 26) _ = _; simp only [Act.put, List.setIfInBounds_toArray, List.set_cons_zero, List.set_cons_succ, i64_w, i32_w]; rfl)
         refine one_ (i := 6) (N := some 27) (bL 9 127) rfl rfl (one_of HT_.out (by kernel_rfl)) (by decide) (fun K hK => ?_)
         refine value_ (w1 := ?_) (v := ?_) (by rfl) rfl ?_ ?_
         rotate_left 2
         ·go_simp
          constructor
          ·rfl
          ·rfl
         refine hK.out _ _ ⟨(blk_cell (blk_alloc BK615.out _) 0).trans rfl, (blk_cell (blk_alloc BK615.out _) 1).trans rfl, (blk_cell (blk_alloc BK615.out _) 2).trans rfl, (blk_cell (blk_alloc BK615.out _) 3).trans rfl, (blk_cell (blk_alloc BK615.out _) 4).trans rfl, (blk_cell (blk_alloc BK615.out _) 5).trans rfl, (blk_cell (blk_alloc BK615.out _) 6).trans rfl, (blk_cell (blk_alloc BK615.out _) 7).trans rfl⟩ (fun hHeld => ?_)
         clear hK K
         refine norm_ (a' := ?_) ?_ ?_; rotate_left; (show Act.put _ (some 27) _ = _; simp only [Act.put, List.setIfInBounds_toArray, List.set_cons_zero, List.set_cons_succ, i64_w, i32_w]; rfl)
         refine one_ (i := 7) (N := some 28) (bL 9 255) rfl rfl (one_of HT_.out (by kernel_rfl)) (by decide) (fun K hK => ?_)
         refine Kd.S_append_step k61 (w0 := w) w.heap.size (by rfl) (.tmp 24) (.tmp 27) 41 61 (.agg #[(.int .i64 0), (.int .i64 0), (.int .i64 0), (.int .i64 0), (.int .i64 0), (.slice none 0 0), (.int .i64 0), (.bool false)]) 80 rfl Try.underlying41 info61 rfl (by decide) (by omega) v623 t622 (⟨t625, t626, t627, t628, t629, t630, t633, t634⟩ : S61) [.int .i64 t625, .int .i64 t626, .int .i64 t627, .int .i64 t628, .int .i64 t629, .slice Ao48 t630.length co48, .int .i64 t633, .bool t634] (fun k_ => k_ ≠ gb615) (fun k_ => some k_ = (.slice Ao48 t630.length co48 : Value).ownBlock) rfl rfl ?aP (fun k_ hk_ => ((Kd.R_mono (ok' := fun k_ => ((fun k_ => k_ ≠ gb615)) k_ ∧ some k_ ≠ (v623 : Value).ownBlock) (Kd.R_types (Kd.R_apart' (HO632.out) (Kd.S_typed HO624.out) (by decide)) BK615.out (by decide)) (fun k_ hk => ⟨hk.2, hk.1.2⟩))).1 k_ hk_.symm) ?aF ?aO ?aB ?aS ?aL ?_
         (case aP => exact k61_mkM _ _ _ (⟨t625, t626, t627, t628, t629, t630, t633, t634⟩ : S61) (Kd.R_mono (Kd.R_tight rfl (Kd.R_mono (ok' := fun k_ => ((fun k_ => k_ ≠ gb615)) k_ ∧ some k_ ≠ (v623 : Value).ownBlock) (Kd.R_types (Kd.R_apart' (HO632.out) (Kd.S_typed HO624.out) (by decide)) BK615.out (by decide)) (fun k_ hk => ⟨hk.2, hk.1.2⟩))) (fun _ h_ => h_)))
         (case aB => exact (bw_q HB))
         (case aF => exact (fun k_ hk => Kd.freshB (g := gb615) (o := .cells #[.int .i64 a1_0, .int .i64 a1_1, .int .i64 a1_2, .int .i64 a1_3, .int .i64 a1_4, .slice A1_5 l1_5.length c1_5, .int .i64 a1_6, .bool a1_7] 61 (0, 0)) (bk_q BK615) k_ hk))
         (case aO => exact (by (with_reducible repeat (first | apply Kd.S_alloc | apply Kd.S_drewN | apply Kd.S_drew)); exact Kd.S_mono HO624.out (fun k_ hk => ⟨hk.1.2, fun e_ => hk.2 e_⟩)))
         (case aS => exact (below_size (bw_q HB)))
         (case aL => have := LMc18.out; omega)
         intro v636 w47 ho hb hg hat
         rw [← Ny635.out] at ho
         replace BK615 := Aside0.mk (blk_grown (g := gb615) (o := .cells #[.int .i64 a1_0, .int .i64 a1_1, .int .i64 a1_2, .int .i64 a1_3, .int .i64 a1_4, .slice A1_5 l1_5.length c1_5, .int .i64 a1_6, .bool a1_7] 61 (0, 0)) (bk_q BK615) hg (Kd.S_away HO624.out (fun _ hk => hk.1.2)))
         replace HB := Aside0.mk (hb)
         have HO637 := Aside0.mk (ho)
         clear HO624 HO632
         clear ho hb hg hat
         refine hK.out _ _ ⟨(blk_cell BK615.out 0).trans rfl, (blk_cell BK615.out 1).trans rfl, (blk_cell BK615.out 2).trans rfl, (blk_cell BK615.out 3).trans rfl, (blk_cell BK615.out 4).trans rfl, (blk_cell BK615.out 5).trans rfl, (blk_cell BK615.out 6).trans rfl, (blk_cell BK615.out 7).trans rfl⟩ (fun hHeld => ?_)
         clear hK K
         refine norm_ (a' := ?_) ?_ ?_; rotate_left; (show Act.put _ (some 28) _ = _; simp only [Act.put, List.setIfInBounds_toArray, List.set_cons_zero, List.set_cons_succ, i64_w, i32_w]; rfl)
         refine pq_ 8 6 (bL 9 511) HT_.out rfl rfl ?_
         refine done_ (done_of HT_.out (by kernel_rfl)) ?_
         try go_wp2
         replace HO637 := Aside0.mk (Kd.S_drew HO637.out)
         replace BK615 := Aside0.mk (blk_drew BK615.out)
         replace HB := Aside0.mk (below_drew1 HB.out)
         have p638 : 0 ≤ (x5_2 : Int) := of_decide_eq_true as_q
         have q638 : x5_2 < (l0.length : Int) := of_decide_eq_true as_q
         obtain ⟨ad638, A638_5, c638_5, e638, hx638_0, hx638_1, hx638_2, hx638_3, hx638_4, hx638_5, hx638_6, hx638_7, hl638_5, hi638_5⟩ := at_T61 HR0.out x5_2 p638 q638
         have hw638_7 := hx638_7
         have hw638_6 := hx638_6
         have hw638_5 := hx638_5
         have hw638_4 := hx638_4
         have hw638_3 := hx638_3
         have hw638_2 := hx638_2
         have hw638_1 := hx638_1
         have hw638_0 := hx638_0
         cases e638
         replace hx638_0 := (HB.out.cell (World.block_lt_of_cell? w _ hx638_0)).trans hx638_0
         replace hx638_1 := (HB.out.cell (World.block_lt_of_cell? w _ hx638_1)).trans hx638_1
         replace hx638_2 := (HB.out.cell (World.block_lt_of_cell? w _ hx638_2)).trans hx638_2
         replace hx638_3 := (HB.out.cell (World.block_lt_of_cell? w _ hx638_3)).trans hx638_3
         replace hx638_4 := (HB.out.cell (World.block_lt_of_cell? w _ hx638_4)).trans hx638_4
         replace hx638_5 := (HB.out.cell (World.block_lt_of_cell? w _ hx638_5)).trans hx638_5
         replace hx638_6 := (HB.out.cell (World.block_lt_of_cell? w _ hx638_6)).trans hx638_6
         replace hx638_7 := (HB.out.cell (World.block_lt_of_cell? w _ hx638_7)).trans hx638_7
         have HR638_5 := Aside0.mk hi638_5
         have HC638_5 := Aside0.mk hl638_5
         clear hi638_5 hl638_5
         replace p638 := eq_true p638
         replace q638 := eq_true q638
         refine start_ (n := 12) (S := fun w' => w'.cell? ⟨gb615, 0, none⟩ = some (.int .i64 a1_0) ∧ w'.cell? ⟨gb615, 1, none⟩ = some (.int .i64 a1_1) ∧ w'.cell? ⟨gb615, 2, none⟩ = some (.int .i64 a1_2) ∧ w'.cell? ⟨gb615, 3, none⟩ = some (.int .i64 a1_3) ∧ w'.cell? ⟨gb615, 4, none⟩ = some (.int .i64 a1_4) ∧ w'.cell? ⟨gb615, 5, none⟩ = some (.slice A1_5 l1_5.length c1_5) ∧ w'.cell? ⟨gb615, 6, none⟩ = some (.int .i64 a1_6) ∧ w'.cell? ⟨gb615, 7, none⟩ = some (.bool a1_7) ∧ w'.cell? (ad638.add ((x5_2).toNat * 8)) = some (.int .i64 ((rd_T61 l0 x5_2).f0)) ∧ w'.cell? ⟨(ad638.add ((x5_2).toNat * 8)).block, (ad638.add ((x5_2).toNat * 8)).off + 1, none⟩ = some (.int .i64 ((rd_T61 l0 x5_2).f1)) ∧ w'.cell? ⟨(ad638.add ((x5_2).toNat * 8)).block, (ad638.add ((x5_2).toNat * 8)).off + 2, none⟩ = some (.int .i64 ((rd_T61 l0 x5_2).f2)) ∧ w'.cell? ⟨(ad638.add ((x5_2).toNat * 8)).block, (ad638.add ((x5_2).toNat * 8)).off + 3, none⟩ = some (.int .i64 ((rd_T61 l0 x5_2).f3)) ∧ w'.cell? ⟨(ad638.add ((x5_2).toNat * 8)).block, (ad638.add ((x5_2).toNat * 8)).off + 4, none⟩ = some (.int .i64 ((rd_T61 l0 x5_2).f4)) ∧ w'.cell? ⟨(ad638.add ((x5_2).toNat * 8)).block, (ad638.add ((x5_2).toNat * 8)).off + 5, none⟩ = some (.slice A638_5 ((rd_T61 l0 x5_2).f5).length c638_5) ∧ w'.cell? ⟨(ad638.add ((x5_2).toNat * 8)).block, (ad638.add ((x5_2).toNat * 8)).off + 6, none⟩ = some (.int .i64 ((rd_T61 l0 x5_2).f6)) ∧ w'.cell? ⟨(ad638.add ((x5_2).toNat * 8)).block, (ad638.add ((x5_2).toNat * 8)).off + 7, none⟩ = some (.bool ((rd_T61 l0 x5_2).f7))) (ds := []) (bL 12 0) (by kernel_rfl) rfl rfl ⟨(blk_cell BK615.out 0).trans rfl, (blk_cell BK615.out 1).trans rfl, (blk_cell BK615.out 2).trans rfl, (blk_cell BK615.out 3).trans rfl, (blk_cell BK615.out 4).trans rfl, (blk_cell BK615.out 5).trans rfl, (blk_cell BK615.out 6).trans rfl, (blk_cell BK615.out 7).trans rfl, ((HB.out.cell (World.block_lt_of_cell? w _ hw638_0)).trans hw638_0), ((HB.out.cell (World.block_lt_of_cell? w _ hw638_1)).trans hw638_1), ((HB.out.cell (World.block_lt_of_cell? w _ hw638_2)).trans hw638_2), ((HB.out.cell (World.block_lt_of_cell? w _ hw638_3)).trans hw638_3), ((HB.out.cell (World.block_lt_of_cell? w _ hw638_4)).trans hw638_4), ((HB.out.cell (World.block_lt_of_cell? w _ hw638_5)).trans hw638_5), ((HB.out.cell (World.block_lt_of_cell? w _ hw638_6)).trans hw638_6), ((HB.out.cell (World.block_lt_of_cell? w _ hw638_7)).trans hw638_7)⟩ (fun hHeld => ?_); refine with_tabW impl_put.tab5 impl_put.bits5 (fun HT_ HW_ => ?_)
         generalize w47.drew = w49 at HO637 BK615 HB HR638_5 hx638_0 hx638_1 hx638_2 hx638_3 hx638_4 hx638_5 hx638_6 hx638_7 hHeld ⊢
         refine pq_ 0 29 (bL 12 1) HT_.out rfl rfl ?_
         refine pq_ 1 30 (bL 12 3) HT_.out rfl rfl ?_
         refine pq_ 2 31 (bL 12 7) HT_.out rfl rfl ?_
         refine pq_ 3 32 (bL 12 15) HT_.out rfl rfl ?_
         refine pq_ 4 33 (bL 12 31) HT_.out rfl rfl ?_
         refine pq_ 5 34 (bL 12 63) HT_.out rfl rfl ?_
         refine pq_ 6 35 (bL 12 127) HT_.out rfl rfl ?_
         refine pq_ 7 36 (bL 12 255) HT_.out rfl rfl ?_
         refine take_ (i := 8) (N := some 37) (v := ?_) (a' := ?_) (bL 12 511) rfl rfl (take_ofW HT_.out HW_.out (by kernel_rfl)) (fun _ _ _ h => h) (Or.inl ⟨by rfl, ?_⟩) hHeld ?_ ?_; rotate_left; (rintro w' ⟨s0, s1, s2, s3, s4, s5, s6, s7, s8, s9, s10, s11, s12, s13, s14, s15⟩; go_simp; with_reducible rfl); rotate_left; (exact put_q)
         refine take_ (i := 9) (N := some 38) (v := ?_) (a' := ?_) (bL 12 1023) rfl rfl (take_ofW HT_.out HW_.out (by kernel_rfl)) (fun _ _ _ h => h) (Or.inl ⟨by rfl, ?_⟩) hHeld ?_ ?_; rotate_left; (rintro w' ⟨s0, s1, s2, s3, s4, s5, s6, s7, s8, s9, s10, s11, s12, s13, s14, s15⟩; go_simp; with_reducible rfl); rotate_left; (exact put_q)
         refine one_ (i := 10) (N := some 39) (bL 12 2047) rfl rfl (one_of HT_.out (by kernel_rfl)) (by decide) (fun K hK => ?_)
         refine goes_ Try.func69 (by kernel_rfl) rfl #[.agg #[.int .i64 ((rd_T61 l0 x5_2).f0), .int .i64 ((rd_T61 l0 x5_2).f1), .int .i64 ((rd_T61 l0 x5_2).f2), .int .i64 ((rd_T61 l0 x5_2).f3), .int .i64 ((rd_T61 l0 x5_2).f4), .slice A638_5 ((rd_T61 l0 x5_2).f5).length c638_5, .int .i64 ((rd_T61 l0 x5_2).f6), .bool ((rd_T61 l0 x5_2).f7)], .agg #[.int .i64 a1_0, .int .i64 a1_1, .int .i64 a1_2, .int .i64 a1_3, .int .i64 a1_4, .slice A1_5 l1_5.length c1_5, .int .i64 a1_6, .bool a1_7]] (by rfl) rfl rfl mp_q ?_
         with_reducible refine (impl_SameKey.calls ((rd_T61 l0 x5_2).f0) ((rd_T61 l0 x5_2).f1) ((rd_T61 l0 x5_2).f2) ((rd_T61 l0 x5_2).f3) ((rd_T61 l0 x5_2).f4) _ _ ((rd_T61 l0 x5_2).f5) ((rd_T61 l0 x5_2).f6) ((rd_T61 l0 x5_2).f7) a1_0 a1_1 a1_2 a1_3 a1_4 _ _ l1_5 a1_6 a1_7 false _ ?side1 ?side2 ?side3 ?side4 A20.out).mono ?_
         (case side1 => exact cs_q (Kd.C_below HR638_5.out HB.out))
         (case side2 => exact HC638_5.out)
         (case side3 => exact cs_q (Kd.C_below HR1_5.out HB.out))
         (case side4 => exact HC1_5.out)
         rintro e w50 ⟨rfl, hb⟩
         refine ⟨_, rfl, ?_⟩
         replace HO637 := Aside0.mk (Kd.S_below (kS_q HO637) hb)
         replace BK615 := Aside0.mk (blk_below (g := gb615) (bk_q BK615) hb)
         replace HB := Aside0.mk (below_step (bw_q HB) hb)
         (try clear hb)
         (try clear hb2)
         (try clear hk)
         (try clear hi)
         refine hK.out _ _ ⟨(blk_cell BK615.out 0).trans rfl, (blk_cell BK615.out 1).trans rfl, (blk_cell BK615.out 2).trans rfl, (blk_cell BK615.out 3).trans rfl, (blk_cell BK615.out 4).trans rfl, (blk_cell BK615.out 5).trans rfl, (blk_cell BK615.out 6).trans rfl, (blk_cell BK615.out 7).trans rfl, ((HB.out.cell (World.block_lt_of_cell? w _ hw638_0)).trans hw638_0), ((HB.out.cell (World.block_lt_of_cell? w _ hw638_1)).trans hw638_1), ((HB.out.cell (World.block_lt_of_cell? w _ hw638_2)).trans hw638_2), ((HB.out.cell (World.block_lt_of_cell? w _ hw638_3)).trans hw638_3), ((HB.out.cell (World.block_lt_of_cell? w _ hw638_4)).trans hw638_4), ((HB.out.cell (World.block_lt_of_cell? w _ hw638_5)).trans hw638_5), ((HB.out.cell (World.block_lt_of_cell? w _ hw638_6)).trans hw638_6), ((HB.out.cell (World.block_lt_of_cell? w _ hw638_7)).trans hw638_7)⟩ (fun hHeld => ?_)
         clear hK K
         refine norm_ (a' := ?_) ?_ ?_; rotate_left; (show Act.put _ (some 39) _ = _; simp only [Act.put, List.setIfInBounds_toArray, List.set_cons_zero, List.set_cons_succ, i64_w, i32_w]; rfl)
         refine pq_ 11 40 (bL 12 4095) HT_.out rfl rfl ?_
         refine done_ (done_of HT_.out (by kernel_rfl)) ?_
         have q51 : (x5_2 : Int) ≤ ((l0.length : Int) : Int) := of_decide_eq_true as_q
         obtain ⟨i051, hi051, _, hsz51, _⟩ := info_parts info61
         have hroom51 : l0.length ≤ c0 := HC0.out
         have hC51 : Kd.C k61 _ (some ad638) l0.length l0 := HR0.out
         have q051 : (0 : Int) ≤ (x5_2 : Int) := of_decide_eq_true as_q
         have hcut51 := cut_from (P := Try.prog) 41 61 .i64 Try.underlying41 hi051 8 hsz51 (some ad638) l0.length c0 x5_2 q051 q51
         have hr51 := Kd.C_drop (m := (x5_2 : Int).toNat) (c := c0) hC51 (by omega) hroom51
         obtain ⟨A51, hA51⟩ : ∃ A1, A1 = (if c0 = (x5_2 : Int).toNat then (some ad638) else ((some ad638) : Option Addr).map (·.add ((x5_2 : Int).toNat * 8))) := ⟨_, rfl⟩
         obtain ⟨c51, hc51⟩ : ∃ c1, c1 = c0 - (x5_2 : Int).toNat := ⟨_, rfl⟩
         have hy51 : y650.length = l0.length - (x5_2 : Int).toNat := (by rw [Ny650.out, List.length_drop] <;> omega)
         rw [show (l0).drop (x5_2 : Int).toNat = y650 from Ny650.out.symm] at hr51
         replace hr51 : Kd.C k61 _ A51 y650.length y650 := (by rw [hA51]; exact hr51)
         rw [← hy51, ← hA51, ← hc51] at hcut51
         have HR653 := Aside0.mk hr51
         have HC653 := Aside0.mk (show y650.length ≤ c51 from by rw [hy51, hc51]; exact Nat.sub_le_sub_right hroom51 _)
         clear hr51 hC51 hroom51 hi051 hsz51 hc51
         have KY51 := Aside0.mk hy51
         have KA51 := Aside0.mk hA51
         clear hy51 hA51
         replace q51 := eq_true q51
         try go_wp2_with (first | ((with_reducible refine gate_callee (f := 135) rfl ?_); refine goesL_ (some 47) rfl rfl Try.func135 (by kernel_rfl) rfl #[.slice A51 y650.length c51] rfl mp_q ?_; (with_reducible refine (impl_copyRecords.calls kj2 _ _ y650 t654 _ ?side1 ?side2 A41.out).mono ?_); (case side1 => exact cs_q (Kd.C_below HR653.out HB.out)); (case side2 => exact HC653.out); rintro e w52 ⟨v655, rfl, ho0, hb⟩; refine ⟨_, rfl, ?_⟩; have HO656 := Aside0.mk (Kd.S_lower (Kd.S_newB (Kd.S_new' ho0 (Kd.S_lt (kS_q HO637))) (g := gb615) (o := .cells #[.int .i64 a1_0, .int .i64 a1_1, .int .i64 a1_2, .int .i64 a1_3, .int .i64 a1_4, .slice A1_5 l1_5.length c1_5, .int .i64 a1_6, .bool a1_7] 61 (0, 0)) (bk_q BK615)) (below_size (bw_q HB))); have HSX := Aside0.mk (Kd.S_mono (ok' := fun k_ => (k_ ≠ gb615) ∧ k_ < w50.heap.size) (Kd.S_old (kS_q HO637) hb) (fun _ hk_ => hk_)); have HSY := Aside0.mk (Kd.S_mono (ok' := fun k_ => w50.heap.size ≤ k_) (Kd.S_lower (Kd.S_bound ho0) (below_size (bw_q HB))) (fun _ hk_ => hk_.2.1)); have HSK := Aside0.mk ((fun k_ hk_ => And.intro (Kd.freshB (g := gb615) (o := .cells #[.int .i64 a1_0, .int .i64 a1_1, .int .i64 a1_2, .int .i64 a1_3, .int .i64 a1_4, .slice A1_5 l1_5.length c1_5, .int .i64 a1_6, .bool a1_7] 61 (0, 0)) (bk_q BK615) k_ hk_) (Kd.fresh' (Kd.S_lt (kS_q HO637)) k_ hk_) : ∀ k_, w50.heap.size ≤ k_ → (k_ ≠ gb615) ∧ some k_ ≠ (v636 : Value).ownBlock)); replace HO637 := Aside0.mk (Kd.S_elder' (kS_q HO637) (Kd.S_base ho0) hb); replace BK615 := Aside0.mk (blk_below (g := gb615) (bk_q BK615) hb); replace HB := Aside0.mk (below_step (bw_q HB) hb); (try clear hb); (try clear hb2); (try clear hk); (try clear hi); (try clear ho0); obtain ⟨Ao54, co54, eo54⟩ := Kd.S_slice HO656.out; subst eo54) | ((with_reducible refine gate_builtin (b := .append) (xs := #[.tmp 43, .tmp 47]) rfl ?_); at_builtin; refine Kd.S_append_rows k61 (w0 := w) w.heap.size rfl (.tmp 43) (.tmp 47) 41 61 (.agg #[(.int .i64 0), (.int .i64 0), (.int .i64 0), (.int .i64 0), (.int .i64 0), (.slice none 0 0), (.int .i64 0), (.bool false)]) 80 rfl Try.underlying41 info61 rfl (by decide) (by omega) v636 y635 t654 _ _ _ (fun k_ => k_ ≠ gb615) (fun k_ => (k_ ≠ gb615) ∧ k_ < w50.heap.size) (fun k_ => w50.heap.size ≤ k_) rfl rfl ?aO ?aR (fun k_ hk => hk.1) (fun k_ h1 h2 => Nat.not_le.2 h2.2 h1) (fun k_ hk => HSK.out k_ hk) ?aF ?aB ?aS ?aL ?_; (case aR => exact (kS_q HSY)); (case aB => exact (bw_q HB)); (case aF => exact (fun k_ hk => Kd.freshB (g := gb615) (o := .cells #[.int .i64 a1_0, .int .i64 a1_1, .int .i64 a1_2, .int .i64 a1_3, .int .i64 a1_4, .slice A1_5 l1_5.length c1_5, .int .i64 a1_6, .bool a1_7] 61 (0, 0)) (bk_q BK615) k_ hk)); (case aO => exact (kS_q HSX)); (case aS => exact (below_size (bw_q HB))); (case aL => have := LMc42.out; omega); intro v658 w53 ho hb hg hat; rw [← Ny657.out] at ho; replace BK615 := Aside0.mk (blk_grown (g := gb615) (o := .cells #[.int .i64 a1_0, .int .i64 a1_1, .int .i64 a1_2, .int .i64 a1_3, .int .i64 a1_4, .slice A1_5 l1_5.length c1_5, .int .i64 a1_6, .bool a1_7] 61 (0, 0)) (bk_q BK615) hg (Kd.S_away HO637.out (fun _ hk => hk.1))); replace HB := Aside0.mk (hb); have HO659 := Aside0.mk (ho); clear HO637 HO656; clear ho hb hg hat))
         go_ret
         exact ⟨_, er_q, by (with_reducible repeat (first | apply Kd.S_alloc | apply Kd.S_drewN | apply Kd.S_drew)); exact Kd.S_mono HO659.out (fun _ hk => trivial), bw_q HB⟩
        ·rw [if_neg c42] at H
         exact absurd H (by simp)
      ·rw [if_neg c19] at H
       have c19b0 : decide (x5_2 < (l0.length : Int)) = false := decide_eq_false c19
       clear c19
       have c55b0 := eq_true (of_decide_eq_true as_q : 0 ≤ x5_2)
       have c56b0 := eq_true (of_decide_eq_true as_q : x5_2 ≤ (l0.length : Int))
       obtain ⟨y660, hy660⟩ : ∃ y_ : List (S61), y_ = (l0.drop (x5_2 : Int).toNat) := ⟨_, rfl⟩
       replace H : ((impl_copyRecords.f kj2 y660).bind fun t664 => (if y635.length + t664.length < 1759218604441 then (some (y635 ++ t664)) else (none))) = some r := by first | (rw [hy660]; with_reducible exact H) | (have H2_ := (Option.bind_some _ _).symm.trans H; rw [hy660]; with_reducible exact H2_) | (have H2_ := (Option.bind_some _ _).symm.trans H; with_reducible exact H2_) | with_reducible exact H | (rw [hy660]; exact H) | exact H
       have Ny660 := Aside0.mk hy660
       clear hy660
       replace H := Option.bind_eq_some_iff.mp H
       obtain ⟨t664, A570, H⟩ := H
       replace H : (if y635.length + t664.length < 1759218604441 then (some (y635 ++ t664)) else (none)) = some r := H
       have A57 := Aside0.mk A570
       clear A570
       by_cases c58 : y635.length + t664.length < 1759218604441
       ·rw [if_pos c58] at H
        have LMc58 := Aside0.mk c58
        clear c58
        obtain ⟨y667, hy667⟩ : ∃ y_ : List (S61), y_ = (y635 ++ t664) := ⟨_, rfl⟩
        replace H : (some y667) = some r := by first | (rw [hy667]; with_reducible exact H) | (have H2_ := (Option.bind_some _ _).symm.trans H; rw [hy667]; with_reducible exact H2_) | (have H2_ := (Option.bind_some _ _).symm.trans H; with_reducible exact H2_) | with_reducible exact H | (rw [hy667]; exact H) | exact H
        have Ny667 := Aside0.mk hy667
        clear hy667
        obtain rfl := Option.some.inj H
        try go_wp2
        replace BK615 := Aside0.mk (blk_drew BK615.out)
        replace HB := Aside0.mk (below_drew1 HB.out)
        have q60 : (x5_2 : Int) ≤ ((l0.length : Int) : Int) := of_decide_eq_true as_q
        obtain ⟨i060, hi060, _, hsz60, _⟩ := info_parts info61
        have hroom60 : l0.length ≤ c0 := HC0.out
        have hC60 : Kd.C k61 _ A0 l0.length l0 := HR0.out
        have hcut60 := cut_to (P := Try.prog) 41 61 .i64 Try.underlying41 hi060 A0 l0.length c0 x5_2 (of_decide_eq_true as_q) q60 hroom60
        have hr60 := Kd.C_take (m := (x5_2 : Int).toNat) hC60 (by omega)
        have hy60 : y618.length = (x5_2 : Int).toNat := (by rw [Ny618.out, List.length_take]; omega)
        rw [← Ny618.out] at hr60
        rw [← hy60] at hcut60
        have HR621 := Aside0.mk hr60
        have HC621 := Aside0.mk (show y618.length ≤ c0 from by omega)
        clear hr60 hC60 hroom60 hi060 hsz60
        have KY60 := Aside0.mk hy60
        clear hy60
        replace q60 := eq_true q60
        refine start_ (n := 9) (S := fun w' => w'.cell? ⟨gb615, 0, none⟩ = some (.int .i64 a1_0) ∧ w'.cell? ⟨gb615, 1, none⟩ = some (.int .i64 a1_1) ∧ w'.cell? ⟨gb615, 2, none⟩ = some (.int .i64 a1_2) ∧ w'.cell? ⟨gb615, 3, none⟩ = some (.int .i64 a1_3) ∧ w'.cell? ⟨gb615, 4, none⟩ = some (.int .i64 a1_4) ∧ w'.cell? ⟨gb615, 5, none⟩ = some (.slice A1_5 l1_5.length c1_5) ∧ w'.cell? ⟨gb615, 6, none⟩ = some (.int .i64 a1_6) ∧ w'.cell? ⟨gb615, 7, none⟩ = some (.bool a1_7)) (ds := []) (bL 9 0) (by kernel_rfl) rfl rfl ⟨(blk_cell BK615.out 0).trans rfl, (blk_cell BK615.out 1).trans rfl, (blk_cell BK615.out 2).trans rfl, (blk_cell BK615.out 3).trans rfl, (blk_cell BK615.out 4).trans rfl, (blk_cell BK615.out 5).trans rfl, (blk_cell BK615.out 6).trans rfl, (blk_cell BK615.out 7).trans rfl⟩ (fun hHeld => ?_); refine with_tabW impl_put.tab4 impl_put.bits4 (fun HT_ HW_ => ?_)
        generalize wc.drew = w59 at BK615 HB HR621 hHeld ⊢
        refine pq_ 0 21 (bL 9 1) HT_.out rfl rfl ?_
        refine pq_ 1 22 (bL 9 3) HT_.out rfl rfl ?_
        refine pq_ 2 23 (bL 9 7) HT_.out rfl rfl ?_
        refine take_ (i := 4) (N := some 25) (v := ?_) (a' := ?_) (bL 9 23) rfl rfl (take_ofW HT_.out HW_.out (by kernel_rfl)) (fun _ _ _ h => h) (Or.inl ⟨by rfl, ?_⟩) hHeld ?_ ?_; rotate_left; (rintro w' ⟨s0, s1, s2, s3, s4, s5, s6, s7⟩; go_simp; with_reducible rfl); rotate_left; (exact put_q)
        refine one_ (i := 3) (N := some 24) (bL 9 31) rfl rfl (one_of HT_.out (by kernel_rfl)) (by decide) (fun K hK => ?_)
        refine goes_ Try.func135 (by kernel_rfl) rfl #[.slice A0 y618.length c0] (by rfl) rfl rfl mp_q ?_
        with_reducible refine (impl_copyRecords.calls kj2 _ _ y618 t622 _ ?side1 ?side2 A16.out).mono ?_
        (case side1 => exact cs_q (Kd.C_below HR621.out HB.out))
        (case side2 => exact HC621.out)
        rintro e w61 ⟨v623, rfl, ho0, hb⟩
        refine ⟨_, rfl, ?_⟩
        have HO624 := Aside0.mk (Kd.S_lower (Kd.S_newB ho0 (g := gb615) (o := .cells #[.int .i64 a1_0, .int .i64 a1_1, .int .i64 a1_2, .int .i64 a1_3, .int .i64 a1_4, .slice A1_5 l1_5.length c1_5, .int .i64 a1_6, .bool a1_7] 61 (0, 0)) (bk_q BK615)) (below_size (bw_q HB)))
        replace BK615 := Aside0.mk (blk_below (g := gb615) (bk_q BK615) hb)
        replace HB := Aside0.mk (below_step (bw_q HB) hb)
        (try clear hb)
        (try clear hb2)
        (try clear hk)
        (try clear hi)
        (try clear ho0)
        refine hK.out _ _ ⟨(blk_cell BK615.out 0).trans rfl, (blk_cell BK615.out 1).trans rfl, (blk_cell BK615.out 2).trans rfl, (blk_cell BK615.out 3).trans rfl, (blk_cell BK615.out 4).trans rfl, (blk_cell BK615.out 5).trans rfl, (blk_cell BK615.out 6).trans rfl, (blk_cell BK615.out 7).trans rfl⟩ (fun hHeld => ?_)
        clear hK K
        refine norm_ (a' := ?_) ?_ ?_; rotate_left; (show Act.put _ (some 24) _ = _; simp only [Act.put, List.setIfInBounds_toArray, List.set_cons_zero, List.set_cons_succ, i64_w, i32_w]; rfl)
        refine one_ (i := 5) (N := some 26) (bL 9 63) rfl rfl (one_of HT_.out (by kernel_rfl)) (by decide) (fun K hK => ?_)
        refine goes_ Try.func108 (by kernel_rfl) rfl #[.agg #[.int .i64 a1_0, .int .i64 a1_1, .int .i64 a1_2, .int .i64 a1_3, .int .i64 a1_4, .slice A1_5 l1_5.length c1_5, .int .i64 a1_6, .bool a1_7]] (by rfl) rfl rfl mp_q ?_
        with_reducible refine (impl_copyRecord.calls a1_0 a1_1 a1_2 a1_3 a1_4 _ _ l1_5 a1_6 a1_7 t625 t626 t627 t628 t629 t630 t633 t634 _ ?side1 ?side2 A17.out).mono ?_
        (case side1 => exact cs_q (Kd.C_below HR1_5.out HB.out))
        (case side2 => exact HC1_5.out)
        rintro e w62 ⟨v631, rfl, ho0, hb⟩
        refine ⟨_, rfl, ?_⟩
        have hs_v631 : (v631 : Value).oneCell' = true := (by first | (have h_ := Kd.R_slice ho0; obtain ⟨A_, c_, e_⟩ := h_; simp [e_, Value.oneCell']) | (have h_ := Kd.S_slice ho0; obtain ⟨A_, c_, e_⟩ := h_; simp [e_, Value.oneCell']) | (have h_ := Kd.N_slice ho0; obtain ⟨A_, c_, e_⟩ := h_; simp [e_, Value.oneCell']) | (have h_ := Kd.V_slice ho0; obtain ⟨A_, c_, e_⟩ := h_; simp [e_, Value.oneCell']))
        have hst_v631 := fun (w_ : World) (a_ : Addr) m_ => run_store Try.prog w_ a_ v631 m_ hs_v631
        replace HO624 := Aside0.mk (Kd.S_elder' (kS_q HO624) (Kd.R_base ho0) hb)
        have HO632 := Aside0.mk (Kd.R_lower ho0 (below_size (bw_q HB)))
        replace BK615 := Aside0.mk (blk_below (g := gb615) (bk_q BK615) hb)
        replace HB := Aside0.mk (below_step (bw_q HB) hb)
        (try clear hb)
        (try clear hb2)
        (try clear hk)
        (try clear hi)
        (try clear ho0)
        obtain ⟨Ao64, co64, eo64⟩ := Kd.R_slice HO632.out
        (first | subst eo64 | (injection eo64 with f1_ f2_ f3_; have f4_ := f1_.symm; have f5_ := f3_.symm; clear f1_ f2_ f3_; subst f4_; subst f5_))
        refine hK.out _ _ ⟨(blk_cell BK615.out 0).trans rfl, (blk_cell BK615.out 1).trans rfl, (blk_cell BK615.out 2).trans rfl, (blk_cell BK615.out 3).trans rfl, (blk_cell BK615.out 4).trans rfl, (blk_cell BK615.out 5).trans rfl, (blk_cell BK615.out 6).trans rfl, (blk_cell BK615.out 7).trans rfl⟩ (fun hHeld => ?_)
        clear hK K
        refine norm_ (a' := ?_) ?_ ?_; rotate_left; (show Act.put _ (some 26) _ = _; simp only [Act.put, List.setIfInBounds_toArray, List.set_cons_zero, List.set_cons_succ, i64_w, i32_w]; rfl)
        refine one_ (i := 6) (N := some 27) (bL 9 127) rfl rfl (one_of HT_.out (by kernel_rfl)) (by decide) (fun K hK => ?_)
        refine value_ (w1 := ?_) (v := ?_) (by rfl) rfl ?_ ?_
        rotate_left 2
        ·go_simp
         constructor
         ·rfl
         ·rfl
        refine hK.out _ _ ⟨(blk_cell (blk_alloc BK615.out _) 0).trans rfl, (blk_cell (blk_alloc BK615.out _) 1).trans rfl, (blk_cell (blk_alloc BK615.out _) 2).trans rfl, (blk_cell (blk_alloc BK615.out _) 3).trans rfl, (blk_cell (blk_alloc BK615.out _) 4).trans rfl, (blk_cell (blk_alloc BK615.out _) 5).trans rfl, (blk_cell (blk_alloc BK615.out _) 6).trans rfl, (blk_cell (blk_alloc BK615.out _) 7).trans rfl⟩ (fun hHeld => ?_)
        clear hK K
        refine norm_ (a' := ?_) ?_ ?_; rotate_left; (show Act.put _ (some 27) _ = _; simp only [Act.put, List.setIfInBounds_toArray, List.set_cons_zero, List.set_cons_succ, i64_w, i32_w]; rfl)
        refine one_ (i := 7) (N := some 28) (bL 9 255) rfl rfl (one_of HT_.out (by kernel_rfl)) (by decide) (fun K hK => ?_)
        refine Kd.S_append_step k61 (w0 := w) w.heap.size (by rfl) (.tmp 24) (.tmp 27) 41 61 (.agg #[(.int .i64 0), (.int .i64 0), (.int .i64 0), (.int .i64 0), (.int .i64 0), (.slice none 0 0), (.int .i64 0), (.bool false)]) 80 rfl Try.underlying41 info61 rfl (by decide) (by omega) v623 t622 (⟨t625, t626, t627, t628, t629, t630, t633, t634⟩ : S61) [.int .i64 t625, .int .i64 t626, .int .i64 t627, .int .i64 t628, .int .i64 t629, .slice Ao64 t630.length co64, .int .i64 t633, .bool t634] (fun k_ => k_ ≠ gb615) (fun k_ => some k_ = (.slice Ao64 t630.length co64 : Value).ownBlock) rfl rfl ?aP (fun k_ hk_ => ((Kd.R_mono (ok' := fun k_ => ((fun k_ => k_ ≠ gb615)) k_ ∧ some k_ ≠ (v623 : Value).ownBlock) (Kd.R_types (Kd.R_apart' (HO632.out) (Kd.S_typed HO624.out) (by decide)) BK615.out (by decide)) (fun k_ hk => ⟨hk.2, hk.1.2⟩))).1 k_ hk_.symm) ?aF ?aO ?aB ?aS ?aL ?_
        (case aP => exact k61_mkM _ _ _ (⟨t625, t626, t627, t628, t629, t630, t633, t634⟩ : S61) (Kd.R_mono (Kd.R_tight rfl (Kd.R_mono (ok' := fun k_ => ((fun k_ => k_ ≠ gb615)) k_ ∧ some k_ ≠ (v623 : Value).ownBlock) (Kd.R_types (Kd.R_apart' (HO632.out) (Kd.S_typed HO624.out) (by decide)) BK615.out (by decide)) (fun k_ hk => ⟨hk.2, hk.1.2⟩))) (fun _ h_ => h_)))
        (case aB => exact (bw_q HB))
        (case aF => exact (fun k_ hk => Kd.freshB (g := gb615) (o := .cells #[.int .i64 a1_0, .int .i64 a1_1, .int .i64 a1_2, .int .i64 a1_3, .int .i64 a1_4, .slice A1_5 l1_5.length c1_5, .int .i64 a1_6, .bool a1_7] 61 (0, 0)) (bk_q BK615) k_ hk))
        (case aO => exact (by (with_reducible repeat (first | apply Kd.S_alloc | apply Kd.S_drewN | apply Kd.S_drew)); exact Kd.S_mono HO624.out (fun k_ hk => ⟨hk.1.2, fun e_ => hk.2 e_⟩)))
        (case aS => exact (below_size (bw_q HB)))
        (case aL => have := LMc18.out; omega)
        intro v636 w63 ho hb hg hat
        rw [← Ny635.out] at ho
        replace BK615 := Aside0.mk (blk_grown (g := gb615) (o := .cells #[.int .i64 a1_0, .int .i64 a1_1, .int .i64 a1_2, .int .i64 a1_3, .int .i64 a1_4, .slice A1_5 l1_5.length c1_5, .int .i64 a1_6, .bool a1_7] 61 (0, 0)) (bk_q BK615) hg (Kd.S_away HO624.out (fun _ hk => hk.1.2)))
        replace HB := Aside0.mk (hb)
        have HO637 := Aside0.mk (ho)
        clear HO624 HO632
        clear ho hb hg hat
        refine hK.out _ _ ⟨(blk_cell BK615.out 0).trans rfl, (blk_cell BK615.out 1).trans rfl, (blk_cell BK615.out 2).trans rfl, (blk_cell BK615.out 3).trans rfl, (blk_cell BK615.out 4).trans rfl, (blk_cell BK615.out 5).trans rfl, (blk_cell BK615.out 6).trans rfl, (blk_cell BK615.out 7).trans rfl⟩ (fun hHeld => ?_)
        clear hK K
        refine norm_ (a' := ?_) ?_ ?_; rotate_left; (show Act.put _ (some 28) _ = _; simp only [Act.put, List.setIfInBounds_toArray, List.set_cons_zero, List.set_cons_succ, i64_w, i32_w]; rfl)
        refine pq_ 8 6 (bL 9 511) HT_.out rfl rfl ?_
        refine done_ (done_of HT_.out (by kernel_rfl)) ?_
        try go_wp2
        replace HO637 := Aside0.mk (Kd.S_drew HO637.out)
        replace BK615 := Aside0.mk (blk_drew BK615.out)
        replace HB := Aside0.mk (below_drew1 HB.out)
        refine start_ (n := 12) (S := fun w' => True) (ds := []) (bL 12 0) (by kernel_rfl) rfl rfl trivial (fun hHeld => ?_); refine with_tabW impl_put.tab5 impl_put.bits5 (fun HT_ HW_ => ?_)
        generalize w63.drew = w65 at HO637 BK615 HB hHeld ⊢
        refine pq_ 0 29 (bL 12 1) HT_.out rfl rfl ?_
        refine pq_ 1 30 (bL 12 3) HT_.out rfl rfl ?_
        refine pq_ 2 31 (bL 12 7) HT_.out rfl rfl ?_
        refine pq_ 3 32 (bL 12 15) HT_.out rfl rfl ?_
        refine pq_ 4 33 (bL 12 31) HT_.out rfl rfl ?_
        refine pu_ 5 34 (bL 12 63) HT_.out rfl rfl ?_
        refine pu_ 6 35 (bL 12 127) HT_.out rfl rfl ?_
        refine pu_ 7 36 (bL 12 255) HT_.out rfl rfl ?_
        refine pu_ 8 37 (bL 12 511) HT_.out rfl rfl ?_
        refine pu_ 9 38 (bL 12 1023) HT_.out rfl rfl ?_
        refine pu_ 10 39 (bL 12 2047) HT_.out rfl rfl ?_
        refine pq_ 11 40 (bL 12 4095) HT_.out rfl rfl ?_
        refine done_ (done_of HT_.out (by kernel_rfl)) ?_
        have q66 : (x5_2 : Int) ≤ ((l0.length : Int) : Int) := of_decide_eq_true as_q
        obtain ⟨i066, hi066, _, hsz66, _⟩ := info_parts info61
        have hroom66 : l0.length ≤ c0 := HC0.out
        have hC66 : Kd.C k61 _ A0 l0.length l0 := HR0.out
        have q066 : (0 : Int) ≤ (x5_2 : Int) := of_decide_eq_true as_q
        have hcut66 := cut_from (P := Try.prog) 41 61 .i64 Try.underlying41 hi066 8 hsz66 A0 l0.length c0 x5_2 q066 q66
        have hr66 := Kd.C_drop (m := (x5_2 : Int).toNat) (c := c0) hC66 (by omega) hroom66
        obtain ⟨A66, hA66⟩ : ∃ A1, A1 = (if c0 = (x5_2 : Int).toNat then A0 else (A0 : Option Addr).map (·.add ((x5_2 : Int).toNat * 8))) := ⟨_, rfl⟩
        obtain ⟨c66, hc66⟩ : ∃ c1, c1 = c0 - (x5_2 : Int).toNat := ⟨_, rfl⟩
        have hy66 : y660.length = l0.length - (x5_2 : Int).toNat := (by rw [Ny660.out, List.length_drop] <;> omega)
        rw [show (l0).drop (x5_2 : Int).toNat = y660 from Ny660.out.symm] at hr66
        replace hr66 : Kd.C k61 _ A66 y660.length y660 := (by rw [hA66]; exact hr66)
        rw [← hy66, ← hA66, ← hc66] at hcut66
        have HR663 := Aside0.mk hr66
        have HC663 := Aside0.mk (show y660.length ≤ c66 from by rw [hy66, hc66]; exact Nat.sub_le_sub_right hroom66 _)
        clear hr66 hC66 hroom66 hi066 hsz66 hc66
        have KY66 := Aside0.mk hy66
        have KA66 := Aside0.mk hA66
        clear hy66 hA66
        replace q66 := eq_true q66
        try go_wp2_with (first | ((with_reducible refine gate_callee (f := 135) rfl ?_); refine goesL_ (some 47) rfl rfl Try.func135 (by kernel_rfl) rfl #[.slice A66 y660.length c66] rfl mp_q ?_; (with_reducible refine (impl_copyRecords.calls kj2 _ _ y660 t664 _ ?side1 ?side2 A57.out).mono ?_); (case side1 => exact cs_q (Kd.C_below HR663.out HB.out)); (case side2 => exact HC663.out); rintro e w67 ⟨v665, rfl, ho0, hb⟩; refine ⟨_, rfl, ?_⟩; have HO666 := Aside0.mk (Kd.S_lower (Kd.S_newB (Kd.S_new' ho0 (Kd.S_lt (kS_q HO637))) (g := gb615) (o := .cells #[.int .i64 a1_0, .int .i64 a1_1, .int .i64 a1_2, .int .i64 a1_3, .int .i64 a1_4, .slice A1_5 l1_5.length c1_5, .int .i64 a1_6, .bool a1_7] 61 (0, 0)) (bk_q BK615)) (below_size (bw_q HB))); have HSX := Aside0.mk (Kd.S_mono (ok' := fun k_ => (k_ ≠ gb615) ∧ k_ < w65.heap.size) (Kd.S_old (kS_q HO637) hb) (fun _ hk_ => hk_)); have HSY := Aside0.mk (Kd.S_mono (ok' := fun k_ => w65.heap.size ≤ k_) (Kd.S_lower (Kd.S_bound ho0) (below_size (bw_q HB))) (fun _ hk_ => hk_.2.1)); have HSK := Aside0.mk ((fun k_ hk_ => And.intro (Kd.freshB (g := gb615) (o := .cells #[.int .i64 a1_0, .int .i64 a1_1, .int .i64 a1_2, .int .i64 a1_3, .int .i64 a1_4, .slice A1_5 l1_5.length c1_5, .int .i64 a1_6, .bool a1_7] 61 (0, 0)) (bk_q BK615) k_ hk_) (Kd.fresh' (Kd.S_lt (kS_q HO637)) k_ hk_) : ∀ k_, w65.heap.size ≤ k_ → (k_ ≠ gb615) ∧ some k_ ≠ (v636 : Value).ownBlock)); replace HO637 := Aside0.mk (Kd.S_elder' (kS_q HO637) (Kd.S_base ho0) hb); replace BK615 := Aside0.mk (blk_below (g := gb615) (bk_q BK615) hb); replace HB := Aside0.mk (below_step (bw_q HB) hb); (try clear hb); (try clear hb2); (try clear hk); (try clear hi); (try clear ho0); obtain ⟨Ao69, co69, eo69⟩ := Kd.S_slice HO666.out; subst eo69) | ((with_reducible refine gate_builtin (b := .append) (xs := #[.tmp 43, .tmp 47]) rfl ?_); at_builtin; refine Kd.S_append_rows k61 (w0 := w) w.heap.size rfl (.tmp 43) (.tmp 47) 41 61 (.agg #[(.int .i64 0), (.int .i64 0), (.int .i64 0), (.int .i64 0), (.int .i64 0), (.slice none 0 0), (.int .i64 0), (.bool false)]) 80 rfl Try.underlying41 info61 rfl (by decide) (by omega) v636 y635 t664 _ _ _ (fun k_ => k_ ≠ gb615) (fun k_ => (k_ ≠ gb615) ∧ k_ < w65.heap.size) (fun k_ => w65.heap.size ≤ k_) rfl rfl ?aO ?aR (fun k_ hk => hk.1) (fun k_ h1 h2 => Nat.not_le.2 h2.2 h1) (fun k_ hk => HSK.out k_ hk) ?aF ?aB ?aS ?aL ?_; (case aR => exact (kS_q HSY)); (case aB => exact (bw_q HB)); (case aF => exact (fun k_ hk => Kd.freshB (g := gb615) (o := .cells #[.int .i64 a1_0, .int .i64 a1_1, .int .i64 a1_2, .int .i64 a1_3, .int .i64 a1_4, .slice A1_5 l1_5.length c1_5, .int .i64 a1_6, .bool a1_7] 61 (0, 0)) (bk_q BK615) k_ hk)); (case aO => exact (kS_q HSX)); (case aS => exact (below_size (bw_q HB))); (case aL => have := LMc58.out; omega); intro v668 w68 ho hb hg hat; rw [← Ny667.out] at ho; replace BK615 := Aside0.mk (blk_grown (g := gb615) (o := .cells #[.int .i64 a1_0, .int .i64 a1_1, .int .i64 a1_2, .int .i64 a1_3, .int .i64 a1_4, .slice A1_5 l1_5.length c1_5, .int .i64 a1_6, .bool a1_7] 61 (0, 0)) (bk_q BK615) hg (Kd.S_away HO637.out (fun _ hk => hk.1))); replace HB := Aside0.mk (hb); have HO669 := Aside0.mk (ho); clear HO637 HO666; clear ho hb hg hat))
        go_ret
        exact ⟨_, er_q, by (with_reducible repeat (first | apply Kd.S_alloc | apply Kd.S_drewN | apply Kd.S_drew)); exact Kd.S_mono HO669.out (fun _ hk => trivial), bw_q HB⟩
       ·rw [if_neg c58] at H
        exact absurd H (by simp)
     ·rw [if_neg c18] at H
      exact absurd H (by simp)
    ·rw [if_neg c15] at H
     exact absurd H (by simp)
   ·rw [if_neg c14] at H
    exact absurd H (by simp)

end Go.Proofs.Ythjmdiggglkeaaa.Q
