import Derived.Test.YthjmdiggglkeaaaXSelfOkQspecl01In
import Derived.Test.YthjmdiggglkeaaaXSelfOkQimplRecordOk
/- A Go function as a Lean function, and its contract: for every input the Go code comes to what the Lean function tells. -/



namespace Go.Proofs.Ythjmdiggglkeaaa.Q
open Go.RowKit Go.Proofs.YthjmdiggglkeaaaW.PrintWords Go.Proofs.YthjmdiggglkeaaaW.PrintLast Go.Proofs.YthjmdiggglkeaaaW.PrintMore
attribute [local go_sem] max2_int min2_int max_two min_two max_three min_three max_four min_four   -- for this text's walks alone
set_option linter.unusedVariables false
set_option linter.unusedSimpArgs false

/-! ### impl_StoreOk: function 50 -/
def impl_StoreOk.l0 : Nat → List (S61) → List (S61) → Int → Int → Option (Bool)
 | 0, _, _, _, _ => none
 | k + 1, x0, x5, x6, x7 => if x7 < x6 then (if 0 ≤ x7 then (if x7 < (x5.length : Int) then ((impl_RecordOk.f k ((rd_T61 x5 x7).f0) ((rd_T61 x5 x7).f1) ((rd_T61 x5 x7).f2) ((rd_T61 x5 x7).f3) ((rd_T61 x5 x7).f4) ((rd_T61 x5 x7).f5) ((rd_T61 x5 x7).f6) ((rd_T61 x5 x7).f7)).bind fun t343 => (if t343 = true then (if x7 > 0 then (if 0 ≤ (wrap64 (x7 - 1)) then (if (wrap64 (x7 - 1)) < (x0.length : Int) then ((impl_Before.f ((rd_T61 x0 (wrap64 (x7 - 1))).f0) ((rd_T61 x0 (wrap64 (x7 - 1))).f1) ((rd_T61 x0 (wrap64 (x7 - 1))).f2) ((rd_T61 x0 (wrap64 (x7 - 1))).f3) ((rd_T61 x0 (wrap64 (x7 - 1))).f4) ((rd_T61 x0 (wrap64 (x7 - 1))).f5) ((rd_T61 x0 (wrap64 (x7 - 1))).f6) ((rd_T61 x0 (wrap64 (x7 - 1))).f7) ((rd_T61 x5 x7).f0) ((rd_T61 x5 x7).f1) ((rd_T61 x5 x7).f2) ((rd_T61 x5 x7).f3) ((rd_T61 x5 x7).f4) ((rd_T61 x5 x7).f5) ((rd_T61 x5 x7).f6) ((rd_T61 x5 x7).f7)).bind fun t345 => (if t345 = true then (impl_StoreOk.l0 k x0 x5 x6 (wrap64 (x7 + 1))) else (some false))) else (none)) else (none)) else (impl_StoreOk.l0 k x0 x5 x6 (wrap64 (x7 + 1)))) else (some false))) else (none)) else (none)) else (some (decide ((x0.length : Int) ≤ 150)))
def impl_StoreOk.f (k : Nat) (l0 : List (S61)) : Option (Bool) := impl_StoreOk.l0 k l0 l0 (l0.length : Int) 0
theorem impl_StoreOk.mono_l : ∀ k, (∀ y0 y1 y2 y3, LeO (impl_StoreOk.l0 k y0 y1 y2 y3) (impl_StoreOk.l0 (k + 1) y0 y1 y2 y3))
 | 0 => fun _ _ _ _ r h => by simp [impl_StoreOk.l0] at h
 | k + 1 => by
  have ih0 := impl_StoreOk.mono_l k
  ·intro y0 y1 y2 y3
   unfold impl_StoreOk.l0
   repeat' first
   | (with_reducible exact ih0 _ _ _ _)
   | (with_reducible exact impl_RecordOk.mono _ _ _ _ _ _ _ _ _)
   | (with_reducible exact LeO.refl _)
   | (with_reducible exact LeO.none _)
   | (with_reducible refine LeO.ite ?_ ?_)
   | (with_reducible refine LeO.bind ?_ (fun _ => ?_))
   | exact ih0 _ _ _ _
   | exact impl_RecordOk.mono _ _ _ _ _ _ _ _ _
   | exact LeO.none _
   | refine LeO.ite ?_ ?_
   | refine LeO.bind ?_ (fun _ => ?_)
theorem impl_StoreOk.mono : ∀ a0 k, LeO (impl_StoreOk.f k a0) (impl_StoreOk.f (k + 1) a0) := by
 intro a0 k
 have ih0 := impl_StoreOk.mono_l k
 unfold impl_StoreOk.f
 repeat' first
   | (with_reducible exact ih0 _ _ _ _)
   | (with_reducible exact impl_RecordOk.mono _ _ _ _ _ _ _ _ _)
   | (with_reducible exact LeO.refl _)
   | (with_reducible exact LeO.none _)
   | (with_reducible refine LeO.ite ?_ ?_)
   | (with_reducible refine LeO.bind ?_ (fun _ => ?_))
   | exact ih0 _ _ _ _
   | exact impl_RecordOk.mono _ _ _ _ _ _ _ _ _
   | exact LeO.none _
   | refine LeO.ite ?_ ?_
   | refine LeO.bind ?_ (fun _ => ?_)
def impl_StoreOk.T4 : Bool × List (List Nat × List Nat) := (true, [([], []), ([0], [0]), ([1], [1]), ([2, 1], [2]), ([3], [3]), ([4, 3], [3, 4]), ([5, 3, 3], [3, 5]), ([6], [6]), ([6], [6]), ([8, 6], [6, 8]), ([7, 9, 6], [6, 7, 9]), ([10, 6], [6, 10]), ([6], [6]), ([11, 12, 6, 6], [6, 11, 12]), ([13, 6], [6, 13]), ([6, 14, 3], [3, 6, 14]), ([3, 15], [3, 15])])
def impl_StoreOk.B4 : List Nat := [0, 1, 3, 7, 15, 31, 63, 127, 127, 383, 1023, 2047, 127, 8191, 16383, 32767, 65535]
theorem impl_StoreOk.tab4 : rtab .any (opsOf Try.f50 4) = impl_StoreOk.T4 := by kernel_rfl
theorem impl_StoreOk.bits4 : waitsOk impl_StoreOk.T4.2 impl_StoreOk.B4 = true := by kernel_rfl
set_option maxHeartbeats 8000000 in
set_option maxRecDepth 100000 in
theorem impl_StoreOk.calls (k : Nat) (A0 : Option Addr) (c0 : Nat) (l0 : List (S61)) (r : Bool) (w : World) (hr0 : Kd.C k61 w A0 l0.length l0) (hc0 : l0.length ≤ c0) (h : impl_StoreOk.f k l0 = some r) :
  Calls Try.prog 50 #[.slice A0 l0.length c0] w fun e w' => e = .returned (.bool r) ∧ Below w.heap.size w w' := by
 have hu61 := Try.underlying61
 have HR0 := Aside0.mk hr0
 have HC0 := Aside0.mk hc0
 clear hr0 hc0
 have HB := Aside0.mk (Below.refl w.heap.size w)
 have H : (impl_StoreOk.l0 k l0 l0 (l0.length : Int) 0) = some r := h
 clear h
 have H' := Aside0.mk H
 clear H
 go_enter Try.func50, Try.ntmps50
 go_wp2
 go_loopg [7] k (fun kq v7 w' => ∃ (x7_1 : Int), v7 = .int .i64 x7_1 ∧ Aside0 (impl_StoreOk.l0 kq l0 l0 (l0.length : Int) x7_1 = some r) ∧ Aside0 (kq ≤ k) ∧ Aside0 (Below w.heap.size w w'))
 case atStart => exact ⟨(0), (by first | rfl | (simp; done) | (simp [*]; done)), H', ⟨Nat.le_refl _⟩, ⟨bw_q HB⟩⟩
 case round =>
  clear H'
  obtain ⟨x7_1, rfl, HA, HK1, HB⟩ := hrel
  cases gk with
  | zero => exact absurd HA.out (by simp [impl_StoreOk.l0])
  | succ k1 =>
   have H := HA.out
   clear HA
   simp only [impl_StoreOk.l0] at H
   by_cases c2 : x7_1 < (l0.length : Int)
   ·rw [if_pos c2] at H
    have c2b0 : decide (x7_1 < (l0.length : Int)) = true := decide_eq_true c2
    clear c2
    by_cases c3 : 0 ≤ x7_1
    ·rw [if_pos c3] at H
     have c3b0 : decide (0 ≤ x7_1) = true := decide_eq_true c3
     clear c3
     by_cases c4 : x7_1 < (l0.length : Int)
     ·rw [if_pos c4] at H
      have c4b0 : decide (x7_1 < (l0.length : Int)) = true := decide_eq_true c4
      clear c4
      replace H := Option.bind_eq_some_iff.mp H
      obtain ⟨t343, A50, H⟩ := H
      replace H : (if t343 = true then (if x7_1 > 0 then (if 0 ≤ (wrap64 (x7_1 - 1)) then (if (wrap64 (x7_1 - 1)) < (l0.length : Int) then ((impl_Before.f ((rd_T61 l0 (wrap64 (x7_1 - 1))).f0) ((rd_T61 l0 (wrap64 (x7_1 - 1))).f1) ((rd_T61 l0 (wrap64 (x7_1 - 1))).f2) ((rd_T61 l0 (wrap64 (x7_1 - 1))).f3) ((rd_T61 l0 (wrap64 (x7_1 - 1))).f4) ((rd_T61 l0 (wrap64 (x7_1 - 1))).f5) ((rd_T61 l0 (wrap64 (x7_1 - 1))).f6) ((rd_T61 l0 (wrap64 (x7_1 - 1))).f7) ((rd_T61 l0 x7_1).f0) ((rd_T61 l0 x7_1).f1) ((rd_T61 l0 x7_1).f2) ((rd_T61 l0 x7_1).f3) ((rd_T61 l0 x7_1).f4) ((rd_T61 l0 x7_1).f5) ((rd_T61 l0 x7_1).f6) ((rd_T61 l0 x7_1).f7)).bind fun t345 => (if t345 = true then (impl_StoreOk.l0 k1 l0 l0 (l0.length : Int) (wrap64 (x7_1 + 1))) else (some false))) else (none)) else (none)) else (impl_StoreOk.l0 k1 l0 l0 (l0.length : Int) (wrap64 (x7_1 + 1)))) else (some false)) = some r := H
      have A5 := Aside0.mk A50
      clear A50
      have HZ9 := Aside0.mk H
      clear H
      have p341 : 0 ≤ (x7_1 : Int) := of_decide_eq_true as_q
      have q341 : x7_1 < (l0.length : Int) := of_decide_eq_true as_q
      obtain ⟨ad341, A341_5, c341_5, e341, hx341_0, hx341_1, hx341_2, hx341_3, hx341_4, hx341_5, hx341_6, hx341_7, hl341_5, hi341_5⟩ := at_T61 HR0.out x7_1 p341 q341
      cases e341
      replace hx341_0 := (HB.out.cell (World.block_lt_of_cell? w _ hx341_0)).trans hx341_0
      replace hx341_1 := (HB.out.cell (World.block_lt_of_cell? w _ hx341_1)).trans hx341_1
      replace hx341_2 := (HB.out.cell (World.block_lt_of_cell? w _ hx341_2)).trans hx341_2
      replace hx341_3 := (HB.out.cell (World.block_lt_of_cell? w _ hx341_3)).trans hx341_3
      replace hx341_4 := (HB.out.cell (World.block_lt_of_cell? w _ hx341_4)).trans hx341_4
      replace hx341_5 := (HB.out.cell (World.block_lt_of_cell? w _ hx341_5)).trans hx341_5
      replace hx341_6 := (HB.out.cell (World.block_lt_of_cell? w _ hx341_6)).trans hx341_6
      replace hx341_7 := (HB.out.cell (World.block_lt_of_cell? w _ hx341_7)).trans hx341_7
      have HR341_5 := Aside0.mk hi341_5
      have HC341_5 := Aside0.mk hl341_5
      clear hi341_5 hl341_5
      replace p341 := eq_true p341
      replace q341 := eq_true q341
      try go_wp2_with (first | ((with_reducible refine gate_dst (N := 4) rfl ?_); refine box_q 4 #[.int .i64 0, .int .i64 0, .int .i64 0, .int .i64 0, .int .i64 0, .slice none 0 0, .int .i64 0, .bool false] 61 ?_; intro gb342 hg w13 hbox hb; have BK342 := Aside0.mk (hbox); have GW342 := Aside0.mk ((by rw [hg]; exact (below_size (bw_q HB)) : w.heap.size ≤ gb342)); have GE342 := Aside0.mk ((by rw [hg]; exact (below_size (bw_q HB)) : w.heap.size ≤ gb342)); replace HB := Aside0.mk (below_step (bw_q HB) hb); clear hb hbox hg; have hcz14_0 : w13.cell? ⟨gb342, 0, none⟩ = some (.int .i64 0) := (blk_cell BK342.out 0).trans rfl; have hcz14_1 : w13.cell? ⟨gb342, 1, none⟩ = some (.int .i64 0) := (blk_cell BK342.out 1).trans rfl; have hcz14_2 : w13.cell? ⟨gb342, 2, none⟩ = some (.int .i64 0) := (blk_cell BK342.out 2).trans rfl; have hcz14_3 : w13.cell? ⟨gb342, 3, none⟩ = some (.int .i64 0) := (blk_cell BK342.out 3).trans rfl; have hcz14_4 : w13.cell? ⟨gb342, 4, none⟩ = some (.int .i64 0) := (blk_cell BK342.out 4).trans rfl; have hcz14_5 : w13.cell? ⟨gb342, 5, none⟩ = some (.slice none 0 0) := (blk_cell BK342.out 5).trans rfl; have hcz14_6 : w13.cell? ⟨gb342, 6, none⟩ = some (.int .i64 0) := (blk_cell BK342.out 6).trans rfl; have hcz14_7 : w13.cell? ⟨gb342, 7, none⟩ = some (.bool false) := (blk_cell BK342.out 7).trans rfl; have hfz14_0 := blk_frozen BK342.out 0; have hfz14_1 := blk_frozen BK342.out 1; have hfz14_2 := blk_frozen BK342.out 2; have hfz14_3 := blk_frozen BK342.out 3; have hfz14_4 := blk_frozen BK342.out 4; have hfz14_5 := blk_frozen BK342.out 5; have hfz14_6 := blk_frozen BK342.out 6; have hfz14_7 := blk_frozen BK342.out 7))
      have n0_ : Aside0 (((((((((w13.setCell ⟨gb342, 0, none⟩ (.int .i64 ((rd_T61 l0 x7_1).f0))).setCell ⟨gb342, 1, none⟩ (.int .i64 ((rd_T61 l0 x7_1).f1))).setCell ⟨gb342, 2, none⟩ (.int .i64 ((rd_T61 l0 x7_1).f2))).setCell ⟨gb342, 3, none⟩ (.int .i64 ((rd_T61 l0 x7_1).f3))).setCell ⟨gb342, 4, none⟩ (.int .i64 ((rd_T61 l0 x7_1).f4))).setCell ⟨gb342, 5, none⟩ (.slice A341_5 ((rd_T61 l0 x7_1).f5).length c341_5)).setCell ⟨gb342, 6, none⟩ (.int .i64 ((rd_T61 l0 x7_1).f6))).setCell ⟨gb342, 7, none⟩ (.bool ((rd_T61 l0 x7_1).f7))).heap[gb342]? = some (.cells #[.int .i64 ((rd_T61 l0 x7_1).f0), .int .i64 ((rd_T61 l0 x7_1).f1), .int .i64 ((rd_T61 l0 x7_1).f2), .int .i64 ((rd_T61 l0 x7_1).f3), .int .i64 ((rd_T61 l0 x7_1).f4), .slice A341_5 ((rd_T61 l0 x7_1).f5).length c341_5, .int .i64 ((rd_T61 l0 x7_1).f6), .bool ((rd_T61 l0 x7_1).f7)] 61 (0, 0))) := ⟨by refine bz_ ?_; refine blk_put (cs := #[.int .i64 ((rd_T61 l0 x7_1).f0), .int .i64 ((rd_T61 l0 x7_1).f1), .int .i64 ((rd_T61 l0 x7_1).f2), .int .i64 ((rd_T61 l0 x7_1).f3), .int .i64 ((rd_T61 l0 x7_1).f4), .slice A341_5 ((rd_T61 l0 x7_1).f5).length c341_5, .int .i64 ((rd_T61 l0 x7_1).f6), .bool false]) ?_ 7 _ rfl; refine bz_ ?_; refine blk_put (cs := #[.int .i64 ((rd_T61 l0 x7_1).f0), .int .i64 ((rd_T61 l0 x7_1).f1), .int .i64 ((rd_T61 l0 x7_1).f2), .int .i64 ((rd_T61 l0 x7_1).f3), .int .i64 ((rd_T61 l0 x7_1).f4), .slice A341_5 ((rd_T61 l0 x7_1).f5).length c341_5, .int .i64 0, .bool false]) ?_ 6 _ rfl; refine bz_ ?_; refine blk_put (cs := #[.int .i64 ((rd_T61 l0 x7_1).f0), .int .i64 ((rd_T61 l0 x7_1).f1), .int .i64 ((rd_T61 l0 x7_1).f2), .int .i64 ((rd_T61 l0 x7_1).f3), .int .i64 ((rd_T61 l0 x7_1).f4), .slice none 0 0, .int .i64 0, .bool false]) ?_ 5 _ rfl; refine bz_ ?_; refine blk_put (cs := #[.int .i64 ((rd_T61 l0 x7_1).f0), .int .i64 ((rd_T61 l0 x7_1).f1), .int .i64 ((rd_T61 l0 x7_1).f2), .int .i64 ((rd_T61 l0 x7_1).f3), .int .i64 0, .slice none 0 0, .int .i64 0, .bool false]) ?_ 4 _ rfl; refine bz_ ?_; refine blk_put (cs := #[.int .i64 ((rd_T61 l0 x7_1).f0), .int .i64 ((rd_T61 l0 x7_1).f1), .int .i64 ((rd_T61 l0 x7_1).f2), .int .i64 0, .int .i64 0, .slice none 0 0, .int .i64 0, .bool false]) ?_ 3 _ rfl; refine bz_ ?_; refine blk_put (cs := #[.int .i64 ((rd_T61 l0 x7_1).f0), .int .i64 ((rd_T61 l0 x7_1).f1), .int .i64 0, .int .i64 0, .int .i64 0, .slice none 0 0, .int .i64 0, .bool false]) ?_ 2 _ rfl; refine bz_ ?_; refine blk_put (cs := #[.int .i64 ((rd_T61 l0 x7_1).f0), .int .i64 0, .int .i64 0, .int .i64 0, .int .i64 0, .slice none 0 0, .int .i64 0, .bool false]) ?_ 1 _ rfl; refine bz_ ?_; refine blk_put (cs := #[.int .i64 0, .int .i64 0, .int .i64 0, .int .i64 0, .int .i64 0, .slice none 0 0, .int .i64 0, .bool false]) ?_ 0 _ rfl; refine bz_ ?_; exact BK342.out⟩
      have n1_ : Aside0 (Below w.heap.size w ((((((((w13.setCell ⟨gb342, 0, none⟩ (.int .i64 ((rd_T61 l0 x7_1).f0))).setCell ⟨gb342, 1, none⟩ (.int .i64 ((rd_T61 l0 x7_1).f1))).setCell ⟨gb342, 2, none⟩ (.int .i64 ((rd_T61 l0 x7_1).f2))).setCell ⟨gb342, 3, none⟩ (.int .i64 ((rd_T61 l0 x7_1).f3))).setCell ⟨gb342, 4, none⟩ (.int .i64 ((rd_T61 l0 x7_1).f4))).setCell ⟨gb342, 5, none⟩ (.slice A341_5 ((rd_T61 l0 x7_1).f5).length c341_5)).setCell ⟨gb342, 6, none⟩ (.int .i64 ((rd_T61 l0 x7_1).f6))).setCell ⟨gb342, 7, none⟩ (.bool ((rd_T61 l0 x7_1).f7)))) := ⟨bw_q HB⟩
      (try clear BK342)
      (try clear HB)
      generalize ((((((((w13.setCell ⟨gb342, 0, none⟩ (.int .i64 ((rd_T61 l0 x7_1).f0))).setCell ⟨gb342, 1, none⟩ (.int .i64 ((rd_T61 l0 x7_1).f1))).setCell ⟨gb342, 2, none⟩ (.int .i64 ((rd_T61 l0 x7_1).f2))).setCell ⟨gb342, 3, none⟩ (.int .i64 ((rd_T61 l0 x7_1).f3))).setCell ⟨gb342, 4, none⟩ (.int .i64 ((rd_T61 l0 x7_1).f4))).setCell ⟨gb342, 5, none⟩ (.slice A341_5 ((rd_T61 l0 x7_1).f5).length c341_5)).setCell ⟨gb342, 6, none⟩ (.int .i64 ((rd_T61 l0 x7_1).f6))).setCell ⟨gb342, 7, none⟩ (.bool ((rd_T61 l0 x7_1).f7))) = w15 at n0_ n1_ ⊢
      have BK342 := n0_
      have HB := n1_
      clear n0_ n1_
      replace BK342 := Aside0.mk (blk_drew BK342.out)
      replace HB := Aside0.mk (below_drew1 HB.out)
      refine start_ (n := 17) (S := fun w' => w'.cell? ⟨gb342, 0, none⟩ = some (.int .i64 ((rd_T61 l0 x7_1).f0)) ∧ w'.cell? ⟨gb342, 1, none⟩ = some (.int .i64 ((rd_T61 l0 x7_1).f1)) ∧ w'.cell? ⟨gb342, 2, none⟩ = some (.int .i64 ((rd_T61 l0 x7_1).f2)) ∧ w'.cell? ⟨gb342, 3, none⟩ = some (.int .i64 ((rd_T61 l0 x7_1).f3)) ∧ w'.cell? ⟨gb342, 4, none⟩ = some (.int .i64 ((rd_T61 l0 x7_1).f4)) ∧ w'.cell? ⟨gb342, 5, none⟩ = some (.slice A341_5 ((rd_T61 l0 x7_1).f5).length c341_5) ∧ w'.cell? ⟨gb342, 6, none⟩ = some (.int .i64 ((rd_T61 l0 x7_1).f6)) ∧ w'.cell? ⟨gb342, 7, none⟩ = some (.bool ((rd_T61 l0 x7_1).f7))) (ds := []) (bL 17 0) (by kernel_rfl) rfl rfl ⟨(blk_cell BK342.out 0).trans rfl, (blk_cell BK342.out 1).trans rfl, (blk_cell BK342.out 2).trans rfl, (blk_cell BK342.out 3).trans rfl, (blk_cell BK342.out 4).trans rfl, (blk_cell BK342.out 5).trans rfl, (blk_cell BK342.out 6).trans rfl, (blk_cell BK342.out 7).trans rfl⟩ (fun hHeld => ?_); refine with_tabW impl_StoreOk.tab4 impl_StoreOk.bits4 (fun HT_ HW_ => ?_)
      generalize w15.drew = w16 at BK342 HB hHeld ⊢
      refine take_ (i := 0) (N := some 12) (v := ?_) (a' := ?_) (bL 17 1) rfl rfl (take_ofW HT_.out HW_.out (by kernel_rfl)) (fun _ _ _ h => h) (Or.inl ⟨by rfl, ?_⟩) hHeld ?_ ?_; rotate_left; (rintro w' ⟨s0, s1, s2, s3, s4, s5, s6, s7⟩; go_simp; with_reducible rfl); rotate_left; (exact put_q)
      refine one_ (i := 1) (N := some 13) (bL 17 3) rfl rfl (one_of HT_.out (by kernel_rfl)) (by decide) (fun K hK => ?_)
      refine goes_ Try.func110 (by kernel_rfl) rfl #[.agg #[.int .i64 ((rd_T61 l0 x7_1).f0), .int .i64 ((rd_T61 l0 x7_1).f1), .int .i64 ((rd_T61 l0 x7_1).f2), .int .i64 ((rd_T61 l0 x7_1).f3), .int .i64 ((rd_T61 l0 x7_1).f4), .slice A341_5 ((rd_T61 l0 x7_1).f5).length c341_5, .int .i64 ((rd_T61 l0 x7_1).f6), .bool ((rd_T61 l0 x7_1).f7)]] (by rfl) rfl rfl mp_q ?_
      with_reducible refine (impl_RecordOk.calls k1 ((rd_T61 l0 x7_1).f0) ((rd_T61 l0 x7_1).f1) ((rd_T61 l0 x7_1).f2) ((rd_T61 l0 x7_1).f3) ((rd_T61 l0 x7_1).f4) _ _ ((rd_T61 l0 x7_1).f5) ((rd_T61 l0 x7_1).f6) ((rd_T61 l0 x7_1).f7) t343 _ ?side1 ?side2 A5.out).mono ?_
      (case side1 => exact cs_q (Kd.C_below HR341_5.out HB.out))
      (case side2 => exact HC341_5.out)
      rintro e w17 ⟨rfl, hb⟩
      refine ⟨_, rfl, ?_⟩
      replace BK342 := Aside0.mk (blk_below (g := gb342) (bk_q BK342) hb)
      replace HB := Aside0.mk (below_step (bw_q HB) hb)
      (try clear hb)
      (try clear hb2)
      (try clear hk)
      (try clear hi)
      refine hK.out _ _ ⟨(blk_cell BK342.out 0).trans rfl, (blk_cell BK342.out 1).trans rfl, (blk_cell BK342.out 2).trans rfl, (blk_cell BK342.out 3).trans rfl, (blk_cell BK342.out 4).trans rfl, (blk_cell BK342.out 5).trans rfl, (blk_cell BK342.out 6).trans rfl, (blk_cell BK342.out 7).trans rfl⟩ (fun hHeld => ?_)
      clear hK K
      refine norm_ (a' := ?_) ?_ ?_; rotate_left; (show Act.put _ (some 13) _ = _; simp only [Act.put, List.setIfInBounds_toArray, List.set_cons_zero, List.set_cons_succ, i64_w, i32_w]; rfl)
      refine pq_ 2 14 (bL 17 7) HT_.out rfl rfl ?_
      refine pq_ 3 15 (bL 17 15) HT_.out rfl rfl ?_
      have H := HZ9.out
      clear HZ9
      by_cases c6 : t343 = true
      ·subst c6
       have H1 : (if x7_1 > 0 then (if 0 ≤ (wrap64 (x7_1 - 1)) then (if (wrap64 (x7_1 - 1)) < (l0.length : Int) then ((impl_Before.f ((rd_T61 l0 (wrap64 (x7_1 - 1))).f0) ((rd_T61 l0 (wrap64 (x7_1 - 1))).f1) ((rd_T61 l0 (wrap64 (x7_1 - 1))).f2) ((rd_T61 l0 (wrap64 (x7_1 - 1))).f3) ((rd_T61 l0 (wrap64 (x7_1 - 1))).f4) ((rd_T61 l0 (wrap64 (x7_1 - 1))).f5) ((rd_T61 l0 (wrap64 (x7_1 - 1))).f6) ((rd_T61 l0 (wrap64 (x7_1 - 1))).f7) ((rd_T61 l0 x7_1).f0) ((rd_T61 l0 x7_1).f1) ((rd_T61 l0 x7_1).f2) ((rd_T61 l0 x7_1).f3) ((rd_T61 l0 x7_1).f4) ((rd_T61 l0 x7_1).f5) ((rd_T61 l0 x7_1).f6) ((rd_T61 l0 x7_1).f7)).bind fun t345 => (if t345 = true then (impl_StoreOk.l0 k1 l0 l0 (l0.length : Int) (wrap64 (x7_1 + 1))) else (some false))) else (none)) else (none)) else (impl_StoreOk.l0 k1 l0 l0 (l0.length : Int) (wrap64 (x7_1 + 1)))) = some r := by rw [if_pos rfl] at H; exact H
       clear H
       have H := H1
       clear H1
       have HZ10 := Aside0.mk H
       clear H
       refine pq_ 4 16 (bL 17 31) HT_.out rfl rfl ?_
       refine pq_ 5 17 (bL 17 63) HT_.out rfl rfl ?_
       refine pq_ 6 18 (bL 17 127) HT_.out rfl rfl ?_
       have H := HZ10.out
       clear HZ10
       by_cases c7 : x7_1 > 0
       ·rw [if_pos c7] at H
        have c7b0 : decide (0 < x7_1) = true := decide_eq_true c7
        (first | rw [c7b0] | (simp only [i64_w, i32_w]; first | rw [c7b0]) | skip)
        clear c7
        obtain ⟨ji8, hji8⟩ : ∃ j_ : Int, (wrap64 (x7_1 - 1)) = j_ := ⟨_, rfl⟩
        replace H : (if 0 ≤ (ji8) then (if (ji8) < (l0.length : Int) then ((impl_Before.f ((rd_T61 l0 (ji8)).f0) ((rd_T61 l0 (ji8)).f1) ((rd_T61 l0 (ji8)).f2) ((rd_T61 l0 (ji8)).f3) ((rd_T61 l0 (ji8)).f4) ((rd_T61 l0 (ji8)).f5) ((rd_T61 l0 (ji8)).f6) ((rd_T61 l0 (ji8)).f7) ((rd_T61 l0 x7_1).f0) ((rd_T61 l0 x7_1).f1) ((rd_T61 l0 x7_1).f2) ((rd_T61 l0 x7_1).f3) ((rd_T61 l0 x7_1).f4) ((rd_T61 l0 x7_1).f5) ((rd_T61 l0 x7_1).f6) ((rd_T61 l0 x7_1).f7)).bind fun t345 => (if t345 = true then (impl_StoreOk.l0 k1 l0 l0 (l0.length : Int) (wrap64 (x7_1 + 1))) else (some false))) else (none)) else (none)) = some r := by first | (rw [hji8] at H; exact H) | (simp only [hji8] at H ⊢; exact H)
        (try rw [hji8] at A5)
        have hji8w : (IntKind.i64.wrap (x7_1 - 1)) = ji8 := (i64_w _).trans hji8
        by_cases c9 : 0 ≤ (ji8)
        ·rw [if_pos c9] at H
         have c9b0 : decide (0 ≤ (ji8)) = true := decide_eq_true c9
         clear c9
         by_cases c10 : (ji8) < (l0.length : Int)
         ·rw [if_pos c10] at H
          have c10b0 : decide ((ji8) < (l0.length : Int)) = true := decide_eq_true c10
          clear c10
          replace H := Option.bind_eq_some_iff.mp H
          obtain ⟨t345, A110, H⟩ := H
          replace H : (if t345 = true then (impl_StoreOk.l0 k1 l0 l0 (l0.length : Int) (wrap64 (x7_1 + 1))) else (some false)) = some r := H
          have A11 := Aside0.mk A110
          clear A110
          have HZ11 := Aside0.mk H
          clear H
          have p344 : 0 ≤ ((ji8) : Int) := of_decide_eq_true as_q
          have q344 : (ji8) < (l0.length : Int) := of_decide_eq_true as_q
          obtain ⟨ad344, A344_5, c344_5, e344, hx344_0, hx344_1, hx344_2, hx344_3, hx344_4, hx344_5, hx344_6, hx344_7, hl344_5, hi344_5⟩ := at_T61 HR0.out (ji8) p344 q344
          have hw344_7 := hx344_7
          have hw344_6 := hx344_6
          have hw344_5 := hx344_5
          have hw344_4 := hx344_4
          have hw344_3 := hx344_3
          have hw344_2 := hx344_2
          have hw344_1 := hx344_1
          have hw344_0 := hx344_0
          obtain rfl : ad341 = ad344 := (by injection e344)
          replace hx344_0 := (HB.out.cell (World.block_lt_of_cell? w _ hx344_0)).trans hx344_0
          replace hx344_1 := (HB.out.cell (World.block_lt_of_cell? w _ hx344_1)).trans hx344_1
          replace hx344_2 := (HB.out.cell (World.block_lt_of_cell? w _ hx344_2)).trans hx344_2
          replace hx344_3 := (HB.out.cell (World.block_lt_of_cell? w _ hx344_3)).trans hx344_3
          replace hx344_4 := (HB.out.cell (World.block_lt_of_cell? w _ hx344_4)).trans hx344_4
          replace hx344_5 := (HB.out.cell (World.block_lt_of_cell? w _ hx344_5)).trans hx344_5
          replace hx344_6 := (HB.out.cell (World.block_lt_of_cell? w _ hx344_6)).trans hx344_6
          replace hx344_7 := (HB.out.cell (World.block_lt_of_cell? w _ hx344_7)).trans hx344_7
          have HR344_5 := Aside0.mk hi344_5
          have HC344_5 := Aside0.mk hl344_5
          clear hi344_5 hl344_5
          replace p344 := eq_true p344
          replace q344 := eq_true q344
          refine last_weaken (fun w' => w'.cell? ⟨gb342, 0, none⟩ = some (.int .i64 ((rd_T61 l0 x7_1).f0)) ∧ w'.cell? ⟨gb342, 1, none⟩ = some (.int .i64 ((rd_T61 l0 x7_1).f1)) ∧ w'.cell? ⟨gb342, 2, none⟩ = some (.int .i64 ((rd_T61 l0 x7_1).f2)) ∧ w'.cell? ⟨gb342, 3, none⟩ = some (.int .i64 ((rd_T61 l0 x7_1).f3)) ∧ w'.cell? ⟨gb342, 4, none⟩ = some (.int .i64 ((rd_T61 l0 x7_1).f4)) ∧ w'.cell? ⟨gb342, 5, none⟩ = some (.slice A341_5 ((rd_T61 l0 x7_1).f5).length c341_5) ∧ w'.cell? ⟨gb342, 6, none⟩ = some (.int .i64 ((rd_T61 l0 x7_1).f6)) ∧ w'.cell? ⟨gb342, 7, none⟩ = some (.bool ((rd_T61 l0 x7_1).f7)) ∧ w'.cell? (ad341.add (((ji8)).toNat * 8)) = some (.int .i64 ((rd_T61 l0 (ji8)).f0)) ∧ w'.cell? ⟨(ad341.add (((ji8)).toNat * 8)).block, (ad341.add (((ji8)).toNat * 8)).off + 1, none⟩ = some (.int .i64 ((rd_T61 l0 (ji8)).f1)) ∧ w'.cell? ⟨(ad341.add (((ji8)).toNat * 8)).block, (ad341.add (((ji8)).toNat * 8)).off + 2, none⟩ = some (.int .i64 ((rd_T61 l0 (ji8)).f2)) ∧ w'.cell? ⟨(ad341.add (((ji8)).toNat * 8)).block, (ad341.add (((ji8)).toNat * 8)).off + 3, none⟩ = some (.int .i64 ((rd_T61 l0 (ji8)).f3)) ∧ w'.cell? ⟨(ad341.add (((ji8)).toNat * 8)).block, (ad341.add (((ji8)).toNat * 8)).off + 4, none⟩ = some (.int .i64 ((rd_T61 l0 (ji8)).f4)) ∧ w'.cell? ⟨(ad341.add (((ji8)).toNat * 8)).block, (ad341.add (((ji8)).toNat * 8)).off + 5, none⟩ = some (.slice A344_5 ((rd_T61 l0 (ji8)).f5).length c344_5) ∧ w'.cell? ⟨(ad341.add (((ji8)).toNat * 8)).block, (ad341.add (((ji8)).toNat * 8)).off + 6, none⟩ = some (.int .i64 ((rd_T61 l0 (ji8)).f6)) ∧ w'.cell? ⟨(ad341.add (((ji8)).toNat * 8)).block, (ad341.add (((ji8)).toNat * 8)).off + 7, none⟩ = some (.bool ((rd_T61 l0 (ji8)).f7))) (fun w' h_ => ⟨h_.1, h_.2.1, h_.2.2.1, h_.2.2.2.1, h_.2.2.2.2.1, h_.2.2.2.2.2.1, h_.2.2.2.2.2.2.1, h_.2.2.2.2.2.2.2.1⟩) ⟨hHeld.1, hHeld.2.1, hHeld.2.2.1, hHeld.2.2.2.1, hHeld.2.2.2.2.1, hHeld.2.2.2.2.2.1, hHeld.2.2.2.2.2.2.1, hHeld.2.2.2.2.2.2.2, (by first | assumption | exact ((HB.out.cell (World.block_lt_of_cell? w _ hw344_0)).trans hw344_0)), (by first | assumption | exact ((HB.out.cell (World.block_lt_of_cell? w _ hw344_1)).trans hw344_1)), (by first | assumption | exact ((HB.out.cell (World.block_lt_of_cell? w _ hw344_2)).trans hw344_2)), (by first | assumption | exact ((HB.out.cell (World.block_lt_of_cell? w _ hw344_3)).trans hw344_3)), (by first | assumption | exact ((HB.out.cell (World.block_lt_of_cell? w _ hw344_4)).trans hw344_4)), (by first | assumption | exact ((HB.out.cell (World.block_lt_of_cell? w _ hw344_5)).trans hw344_5)), (by first | assumption | exact ((HB.out.cell (World.block_lt_of_cell? w _ hw344_6)).trans hw344_6)), (by first | assumption | exact ((HB.out.cell (World.block_lt_of_cell? w _ hw344_7)).trans hw344_7))⟩ (fun hHeld => ?_)
          refine pq_ 7 19 (bL 17 255) HT_.out rfl rfl ?_
          refine pq_ 8 20 (bL 17 511) HT_.out rfl rfl ?_
          refine pq_ 9 21 (bL 17 1023) HT_.out rfl rfl ?_
          refine pq_ 10 22 (bL 17 2047) HT_.out rfl rfl ?_
          refine take_ (i := 11) (N := some 23) (v := ?_) (a' := ?_) (bL 17 4095) rfl rfl (take_ofW HT_.out HW_.out (by kernel_rfl)) (fun _ _ _ h => h) (Or.inl ⟨by rfl, ?_⟩) hHeld ?_ ?_; rotate_left; (rintro w' ⟨s0, s1, s2, s3, s4, s5, s6, s7, s8, s9, s10, s11, s12, s13, s14, s15⟩; go_simp; with_reducible rfl); rotate_left; (exact put_q)
          refine take_ (i := 12) (N := some 24) (v := ?_) (a' := ?_) (bL 17 8191) rfl rfl (take_ofW HT_.out HW_.out (by kernel_rfl)) (fun _ _ _ h => h) (Or.inl ⟨by rfl, ?_⟩) hHeld ?_ ?_; rotate_left; (rintro w' ⟨s0, s1, s2, s3, s4, s5, s6, s7, s8, s9, s10, s11, s12, s13, s14, s15⟩; go_simp; with_reducible rfl); rotate_left; (exact put_q)
          refine one_ (i := 13) (N := some 25) (bL 17 16383) rfl rfl (one_of HT_.out (by kernel_rfl)) (by decide) (fun K hK => ?_)
          refine goes_ Try.func68 (by kernel_rfl) rfl #[.agg #[.int .i64 ((rd_T61 l0 (ji8)).f0), .int .i64 ((rd_T61 l0 (ji8)).f1), .int .i64 ((rd_T61 l0 (ji8)).f2), .int .i64 ((rd_T61 l0 (ji8)).f3), .int .i64 ((rd_T61 l0 (ji8)).f4), .slice A344_5 ((rd_T61 l0 (ji8)).f5).length c344_5, .int .i64 ((rd_T61 l0 (ji8)).f6), .bool ((rd_T61 l0 (ji8)).f7)], .agg #[.int .i64 ((rd_T61 l0 x7_1).f0), .int .i64 ((rd_T61 l0 x7_1).f1), .int .i64 ((rd_T61 l0 x7_1).f2), .int .i64 ((rd_T61 l0 x7_1).f3), .int .i64 ((rd_T61 l0 x7_1).f4), .slice A341_5 ((rd_T61 l0 x7_1).f5).length c341_5, .int .i64 ((rd_T61 l0 x7_1).f6), .bool ((rd_T61 l0 x7_1).f7)]] (by rfl) rfl rfl (by (try simp only [List.map_toArray, List.map_cons, List.map_nil]); first | done | (simp only [hji8]; rfl) | rfl | (simp only [List.length_drop, List.length_take]; rfl)) ?_
          with_reducible refine (impl_Before.calls ((rd_T61 l0 (ji8)).f0) ((rd_T61 l0 (ji8)).f1) ((rd_T61 l0 (ji8)).f2) ((rd_T61 l0 (ji8)).f3) ((rd_T61 l0 (ji8)).f4) _ _ ((rd_T61 l0 (ji8)).f5) ((rd_T61 l0 (ji8)).f6) ((rd_T61 l0 (ji8)).f7) ((rd_T61 l0 x7_1).f0) ((rd_T61 l0 x7_1).f1) ((rd_T61 l0 x7_1).f2) ((rd_T61 l0 x7_1).f3) ((rd_T61 l0 x7_1).f4) _ _ ((rd_T61 l0 x7_1).f5) ((rd_T61 l0 x7_1).f6) ((rd_T61 l0 x7_1).f7) t345 _ ?side1 ?side2 ?side3 ?side4 A11.out).mono ?_
          (case side1 => exact cs_q (Kd.C_below HR344_5.out HB.out))
          (case side2 => exact HC344_5.out)
          (case side3 => exact cs_q (Kd.C_below HR341_5.out HB.out))
          (case side4 => exact HC341_5.out)
          rintro e w18 ⟨rfl, hb⟩
          refine ⟨_, rfl, ?_⟩
          replace BK342 := Aside0.mk (blk_below (g := gb342) (bk_q BK342) hb)
          replace HB := Aside0.mk (below_step (bw_q HB) hb)
          (try clear hb)
          (try clear hb2)
          (try clear hk)
          (try clear hi)
          refine hK.out _ _ ⟨(blk_cell BK342.out 0).trans rfl, (blk_cell BK342.out 1).trans rfl, (blk_cell BK342.out 2).trans rfl, (blk_cell BK342.out 3).trans rfl, (blk_cell BK342.out 4).trans rfl, (blk_cell BK342.out 5).trans rfl, (blk_cell BK342.out 6).trans rfl, (blk_cell BK342.out 7).trans rfl, ((HB.out.cell (World.block_lt_of_cell? w _ hw344_0)).trans hw344_0), ((HB.out.cell (World.block_lt_of_cell? w _ hw344_1)).trans hw344_1), ((HB.out.cell (World.block_lt_of_cell? w _ hw344_2)).trans hw344_2), ((HB.out.cell (World.block_lt_of_cell? w _ hw344_3)).trans hw344_3), ((HB.out.cell (World.block_lt_of_cell? w _ hw344_4)).trans hw344_4), ((HB.out.cell (World.block_lt_of_cell? w _ hw344_5)).trans hw344_5), ((HB.out.cell (World.block_lt_of_cell? w _ hw344_6)).trans hw344_6), ((HB.out.cell (World.block_lt_of_cell? w _ hw344_7)).trans hw344_7)⟩ (fun hHeld => ?_)
          clear hK K
          refine norm_ (a' := ?_) ?_ ?_; rotate_left; (show Act.put _ (some 25) _ = _; simp only [Act.put, List.setIfInBounds_toArray, List.set_cons_zero, List.set_cons_succ, i64_w, i32_w]; rfl)
          refine pq_ 14 26 (bL 17 32767) HT_.out rfl rfl ?_
          refine pq_ 15 27 (bL 17 65535) HT_.out rfl rfl ?_
          refine pq_ 16 28 (bL 17 131071) HT_.out rfl rfl ?_
          have H := HZ11.out
          clear HZ11
          by_cases c12 : t345 = true
          ·subst c12
           have H1 : (impl_StoreOk.l0 k1 l0 l0 (l0.length : Int) (wrap64 (x7_1 + 1))) = some r := by rw [if_pos rfl] at H; exact H
           clear H
           have H := H1
           clear H1
           have H' := Aside0.mk H
           clear H
           refine done_ (done_of HT_.out (by kernel_rfl)) ?_
           try go_wp2
           go_roundg k1
           case measure => have := HK1.out; omega
           case rel => exact ⟨(wrap64 (x7_1 + 1)), (by first | rfl | (simp; done) | (simp [*]; done)), H', ⟨by have := HK1.out; omega⟩, ⟨bw_q HB⟩⟩
          ·replace c12 := Bool.eq_false_iff.mpr c12
           subst c12
           have H1 : (some false) = some r := by rw [if_neg (show ¬ (false = true) by decide)] at H; exact H
           clear H
           have H := H1
           clear H1
           obtain rfl := Option.some.inj H
           refine done_ (done_of HT_.out (by kernel_rfl)) ?_
           try go_wp2
           go_ret
           exact ⟨by first | rfl | (simp [errW_none, errW_some] <;> rfl) | (simp only [← hji8]; first | rfl | (simp [errW_none, errW_some] <;> rfl)) | (simp [*, errW_none, errW_some] <;> rfl), bw_q HB⟩
         ·rw [if_neg c10] at H
          exact absurd H (by simp)
        ·rw [if_neg c9] at H
         exact absurd H (by simp)
       ·rw [if_neg c7] at H
        have c7b0 : decide (0 < x7_1) = false := decide_eq_false c7
        (first | rw [c7b0] | (simp only [i64_w, i32_w]; first | rw [c7b0]) | skip)
        clear c7
        have H' := Aside0.mk H
        clear H
        refine pu_ 7 19 (bL 17 255) HT_.out rfl rfl ?_
        refine pu_ 8 20 (bL 17 511) HT_.out rfl rfl ?_
        refine pu_ 9 21 (bL 17 1023) HT_.out rfl rfl ?_
        refine pu_ 10 22 (bL 17 2047) HT_.out rfl rfl ?_
        refine pu_ 11 23 (bL 17 4095) HT_.out rfl rfl ?_
        refine pu_ 12 24 (bL 17 8191) HT_.out rfl rfl ?_
        refine pu_ 13 25 (bL 17 16383) HT_.out rfl rfl ?_
        refine pu_ 14 26 (bL 17 32767) HT_.out rfl rfl ?_
        refine pq_ 15 27 (bL 17 65535) HT_.out rfl rfl ?_
        refine pq_ 16 28 (bL 17 131071) HT_.out rfl rfl ?_
        refine done_ (done_of HT_.out (by kernel_rfl)) ?_
        try go_wp2
        go_roundg k1
        case measure => have := HK1.out; omega
        case rel => exact ⟨(wrap64 (x7_1 + 1)), (by first | rfl | (simp; done) | (simp [*]; done)), H', ⟨by have := HK1.out; omega⟩, ⟨bw_q HB⟩⟩
      ·replace c6 := Bool.eq_false_iff.mpr c6
       subst c6
       have H1 : (some false) = some r := by rw [if_neg (show ¬ (false = true) by decide)] at H; exact H
       clear H
       have H := H1
       clear H1
       obtain rfl := Option.some.inj H
       refine pu_ 4 16 (bL 17 31) HT_.out rfl rfl ?_
       refine pu_ 5 17 (bL 17 63) HT_.out rfl rfl ?_
       refine pu_ 6 18 (bL 17 127) HT_.out rfl rfl ?_
       refine pu_ 7 19 (bL 17 255) HT_.out rfl rfl ?_
       refine pu_ 8 20 (bL 17 511) HT_.out rfl rfl ?_
       refine pu_ 9 21 (bL 17 1023) HT_.out rfl rfl ?_
       refine pu_ 10 22 (bL 17 2047) HT_.out rfl rfl ?_
       refine pu_ 11 23 (bL 17 4095) HT_.out rfl rfl ?_
       refine pu_ 12 24 (bL 17 8191) HT_.out rfl rfl ?_
       refine pu_ 13 25 (bL 17 16383) HT_.out rfl rfl ?_
       refine pu_ 14 26 (bL 17 32767) HT_.out rfl rfl ?_
       refine pu_ 15 27 (bL 17 65535) HT_.out rfl rfl ?_
       refine pq_ 16 28 (bL 17 131071) HT_.out rfl rfl ?_
       refine done_ (done_of HT_.out (by kernel_rfl)) ?_
       try go_wp2
       go_ret
       exact ⟨er_q, bw_q HB⟩
     ·rw [if_neg c4] at H
      exact absurd H (by simp)
    ·rw [if_neg c3] at H
     exact absurd H (by simp)
   ·rw [if_neg c2] at H
    have c2b0 : decide (x7_1 < (l0.length : Int)) = false := decide_eq_false c2
    clear c2
    obtain rfl := Option.some.inj H
    go_wp2
    go_ret
    exact ⟨er_q, bw_q HB⟩

end Go.Proofs.Ythjmdiggglkeaaa.Q

/- A Go function as a Lean function, and its contract: for every input the Go code comes to what the Lean function tells. -/

namespace Go.Proofs.Ythjmdiggglkeaaa.Q
open Go.RowKit Go.Proofs.YthjmdiggglkeaaaW.PrintWords Go.Proofs.YthjmdiggglkeaaaW.PrintLast Go.Proofs.YthjmdiggglkeaaaW.PrintMore
attribute [local go_sem] max2_int min2_int max_two min_two max_three min_three max_four min_four   -- for this text's walks alone
set_option linter.unusedVariables false
set_option linter.unusedSimpArgs false

/-! ### impl_linkAt: function 124 -/
def impl_linkAt.l0 : Nat → Int → Int → Int → List (S93) → Int → Int → Option (Int)
 | 0, _, _, _, _, _, _ => none
 | k + 1, x1, x2, x3, x12, x13, x14 => if x14 < x13 then (if 0 ≤ x14 then (if x14 < (x12.length : Int) then (if ((rd_T93 x12 x14).f3) = x3 then (if ((rd_T93 x12 x14).f0) = x1 then (if ((rd_T93 x12 x14).f1) = x2 then (some x14) else (if ((rd_T93 x12 x14).f0) = x2 then (if ((rd_T93 x12 x14).f1) = x1 then (some x14) else (impl_linkAt.l0 k x1 x2 x3 x12 x13 (wrap64 (x14 + 1)))) else (impl_linkAt.l0 k x1 x2 x3 x12 x13 (wrap64 (x14 + 1))))) else (if ((rd_T93 x12 x14).f0) = x2 then (if ((rd_T93 x12 x14).f1) = x1 then (some x14) else (impl_linkAt.l0 k x1 x2 x3 x12 x13 (wrap64 (x14 + 1)))) else (impl_linkAt.l0 k x1 x2 x3 x12 x13 (wrap64 (x14 + 1))))) else (impl_linkAt.l0 k x1 x2 x3 x12 x13 (wrap64 (x14 + 1)))) else (none)) else (none)) else (some (-1))
def impl_linkAt.f (k : Nat) (a0_0 : Int) (l0_1 : List (S93)) (l0_2 : List (S102)) (a1 : Int) (a2 : Int) (a3 : Int) : Option (Int) := impl_linkAt.l0 k a1 a2 a3 l0_1 (l0_1.length : Int) 0
theorem impl_linkAt.mono_l : ∀ k, (∀ y0 y1 y2 y3 y4 y5, LeO (impl_linkAt.l0 k y0 y1 y2 y3 y4 y5) (impl_linkAt.l0 (k + 1) y0 y1 y2 y3 y4 y5))
 | 0 => fun _ _ _ _ _ _ r h => by simp [impl_linkAt.l0] at h
 | k + 1 => by
  have ih0 := impl_linkAt.mono_l k
  ·intro y0 y1 y2 y3 y4 y5
   unfold impl_linkAt.l0
   repeat' first
   | (with_reducible exact ih0 _ _ _ _ _ _)
   | (with_reducible exact LeO.refl _)
   | (with_reducible exact LeO.none _)
   | (with_reducible refine LeO.ite ?_ ?_)
   | (with_reducible refine LeO.bind ?_ (fun _ => ?_))
   | exact ih0 _ _ _ _ _ _
   | exact LeO.none _
   | refine LeO.ite ?_ ?_
   | refine LeO.bind ?_ (fun _ => ?_)
theorem impl_linkAt.mono : ∀ a0 a1 a2 a3 a4 a5 k, LeO (impl_linkAt.f k a0 a1 a2 a3 a4 a5) (impl_linkAt.f (k + 1) a0 a1 a2 a3 a4 a5) := by
 intro a0 a1 a2 a3 a4 a5 k
 have ih0 := impl_linkAt.mono_l k
 unfold impl_linkAt.f
 repeat' first
   | (with_reducible exact ih0 _ _ _ _ _ _)
   | (with_reducible exact LeO.refl _)
   | (with_reducible exact LeO.none _)
   | (with_reducible refine LeO.ite ?_ ?_)
   | (with_reducible refine LeO.bind ?_ (fun _ => ?_))
   | exact ih0 _ _ _ _ _ _
   | exact LeO.none _
   | refine LeO.ite ?_ ?_
   | refine LeO.bind ?_ (fun _ => ?_)
set_option maxHeartbeats 8000000 in
set_option maxRecDepth 100000 in
theorem impl_linkAt.calls (k : Nat) (a0_0 : Int) (A0_1 : Option Addr) (c0_1 : Nat) (l0_1 : List (S93)) (A0_2 : Option Addr) (c0_2 : Nat) (l0_2 : List (S102)) (a1 : Int) (a2 : Int) (a3 : Int) (r : Int) (w : World) (hr0_1 : Kd.C k93 w A0_1 l0_1.length l0_1) (hc0_1 : l0_1.length ≤ c0_1) (hr0_2 : Kd.C k102 w A0_2 l0_2.length l0_2) (hc0_2 : l0_2.length ≤ c0_2) (h : impl_linkAt.f k a0_0 l0_1 l0_2 a1 a2 a3 = some r) :
  Calls Try.prog 124 #[.agg #[.int .i64 a0_0, .slice A0_1 l0_1.length c0_1, .slice A0_2 l0_2.length c0_2], .int .i64 a1, .int .i64 a2, .int .i64 a3] w fun e w' => e = .returned (.int .i64 r) ∧ Below w.heap.size w w' := by
 have hu31 := Try.underlying31
 have hu93 := Try.underlying93
 have HR0_1 := Aside0.mk hr0_1
 have HC0_1 := Aside0.mk hc0_1
 clear hr0_1 hc0_1
 have HR0_2 := Aside0.mk hr0_2
 have HC0_2 := Aside0.mk hc0_2
 clear hr0_2 hc0_2
 have HB := Aside0.mk (Below.refl w.heap.size w)
 have H : (impl_linkAt.l0 k a1 a2 a3 l0_1 (l0_1.length : Int) 0) = some r := h
 clear h
 have H' := Aside0.mk H
 clear H
 go_enter Try.func124, Try.ntmps124
 go_wp2_with (first | ((with_reducible refine gate_dst (N := 4) rfl ?_); refine box_q 4 #[.int .i64 a0_0, .slice A0_1 l0_1.length c0_1, .slice A0_2 l0_2.length c0_2] 31 ?_; intro gb346 hg w5 hbox hb; have BK346 := Aside0.mk (hbox); have GW346 := Aside0.mk ((by rw [hg]; exact (below_size (bw_q HB)) : w.heap.size ≤ gb346)); have GE346 := Aside0.mk ((by rw [hg]; exact (below_size (bw_q HB)) : w.heap.size ≤ gb346)); replace HB := Aside0.mk (below_step (bw_q HB) hb); clear hb hbox hg; have hcz6_0 : w5.cell? ⟨gb346, 0, none⟩ = some (.int .i64 a0_0) := (blk_cell BK346.out 0).trans rfl; have hcz6_1 : w5.cell? ⟨gb346, 1, none⟩ = some (.slice A0_1 l0_1.length c0_1) := (blk_cell BK346.out 1).trans rfl; have hcz6_2 : w5.cell? ⟨gb346, 2, none⟩ = some (.slice A0_2 l0_2.length c0_2) := (blk_cell BK346.out 2).trans rfl; have hfz6_0 := blk_frozen BK346.out 0; have hfz6_1 := blk_frozen BK346.out 1; have hfz6_2 := blk_frozen BK346.out 2))
 go_loopg [14] k (fun kq v14 w' => ∃ (x14_1 : Int), v14 = .int .i64 x14_1 ∧ Aside0 (impl_linkAt.l0 kq a1 a2 a3 l0_1 (l0_1.length : Int) x14_1 = some r) ∧ Aside0 (kq ≤ k) ∧ Aside0 (w'.heap[gb346]? = some (.cells #[.int .i64 a0_0, (.slice A0_1 l0_1.length c0_1), (.slice A0_2 l0_2.length c0_2)] 31 (0, 0))) ∧ Aside0 (Below w.heap.size w w'))
 case atStart => exact ⟨(0), (by first | rfl | (simp; done) | (simp [*]; done)), H', ⟨Nat.le_refl _⟩, ⟨by refine bz_ ?_; exact BK346.out⟩, ⟨bw_q HB⟩⟩
 case round =>
  clear H'
  try clear c1
  try clear p2
  try clear hcz6_0
  try clear hcz6_1
  try clear hcz6_2
  try clear hfz6_0
  try clear hfz6_1
  try clear hfz6_2
  obtain ⟨x14_1, rfl, HA, HK1, BK346, HB⟩ := hrel
  cases gk with
  | zero => exact absurd HA.out (by simp [impl_linkAt.l0])
  | succ k1 =>
   have H := HA.out
   clear HA
   simp only [impl_linkAt.l0] at H
   by_cases c7 : x14_1 < (l0_1.length : Int)
   ·rw [if_pos c7] at H
    have c7b0 : decide (x14_1 < (l0_1.length : Int)) = true := decide_eq_true c7
    clear c7
    by_cases c8 : 0 ≤ x14_1
    ·rw [if_pos c8] at H
     have c8b0 : decide (0 ≤ x14_1) = true := decide_eq_true c8
     clear c8
     by_cases c9 : x14_1 < (l0_1.length : Int)
     ·rw [if_pos c9] at H
      have c9b0 : decide (x14_1 < (l0_1.length : Int)) = true := decide_eq_true c9
      clear c9
      by_cases c10 : ((rd_T93 l0_1 x14_1).f3) = a3
      ·rw [if_pos c10] at H
       have c10b0 : (((rd_T93 l0_1 x14_1).f3) == a3) = true := beq_iff_eq.mpr c10
       have c10b1 : (((rd_T93 l0_1 x14_1).f3) != a3) = false := bne_eq_false_iff_eq.mpr c10
       clear c10
       by_cases c11 : ((rd_T93 l0_1 x14_1).f0) = a1
       ·rw [if_pos c11] at H
        have c11b0 : (((rd_T93 l0_1 x14_1).f0) == a1) = true := beq_iff_eq.mpr c11
        have c11b1 : (((rd_T93 l0_1 x14_1).f0) != a1) = false := bne_eq_false_iff_eq.mpr c11
        clear c11
        by_cases c12 : ((rd_T93 l0_1 x14_1).f1) = a2
        ·rw [if_pos c12] at H
         have c12b0 : (((rd_T93 l0_1 x14_1).f1) == a2) = true := beq_iff_eq.mpr c12
         have c12b1 : (((rd_T93 l0_1 x14_1).f1) != a2) = false := bne_eq_false_iff_eq.mpr c12
         clear c12
         obtain rfl := Option.some.inj H
         have p347 : 0 ≤ (x14_1 : Int) := of_decide_eq_true as_q
         have q347 : x14_1 < (l0_1.length : Int) := of_decide_eq_true as_q
         obtain ⟨ad347, e347, hx347_0, hx347_1, hx347_2, hx347_3⟩ := at_T93 HR0_1.out x14_1 p347 q347
         cases e347
         replace hx347_0 := (HB.out.cell (World.block_lt_of_cell? w _ hx347_0)).trans hx347_0
         replace hx347_1 := (HB.out.cell (World.block_lt_of_cell? w _ hx347_1)).trans hx347_1
         replace hx347_2 := (HB.out.cell (World.block_lt_of_cell? w _ hx347_2)).trans hx347_2
         replace hx347_3 := (HB.out.cell (World.block_lt_of_cell? w _ hx347_3)).trans hx347_3
         replace p347 := eq_true p347
         replace q347 := eq_true q347
         go_wp2_with (first | ((with_reducible refine gate_dst (N := 10) rfl ?_); refine box_q 10 #[.int .i64 0, .int .i64 0, .int .i64 0, .int .i64 0] 93 ?_; intro gb348 hg w13 hbox hb; have BK348 := Aside0.mk (hbox); have GW348 := Aside0.mk ((by rw [hg]; exact (below_size (bw_q HB)) : w.heap.size ≤ gb348)); have GE348 := Aside0.mk ((by rw [hg]; exact (below_size (bw_q HB)) : w.heap.size ≤ gb348)); replace HB := Aside0.mk (below_step (bw_q HB) hb); have NB346_348 := Aside0.mk ((by rw [hg]; exact Nat.ne_of_lt (blk_lt (g := gb346) (o := .cells #[.int .i64 a0_0, .slice (some ad347) l0_1.length c0_1, .slice A0_2 l0_2.length c0_2] 31 (0, 0)) (bk_q BK346)) : gb346 ≠ gb348)); have NB348_346 := Aside0.mk ((by rw [hg]; exact Nat.ne_of_gt (blk_lt (g := gb346) (o := .cells #[.int .i64 a0_0, .slice (some ad347) l0_1.length c0_1, .slice A0_2 l0_2.length c0_2] 31 (0, 0)) (bk_q BK346)) : gb348 ≠ gb346)); replace BK346 := Aside0.mk (blk_below (g := gb346) (bk_q BK346) hb); clear hb hbox hg; have hnb14 := NB348_346.out; have hnc14 := NB346_348.out; have hcz15_0 : w13.cell? ⟨gb348, 0, none⟩ = some (.int .i64 0) := (blk_cell BK348.out 0).trans rfl; have hcz15_1 : w13.cell? ⟨gb348, 1, none⟩ = some (.int .i64 0) := (blk_cell BK348.out 1).trans rfl; have hcz15_2 : w13.cell? ⟨gb348, 2, none⟩ = some (.int .i64 0) := (blk_cell BK348.out 2).trans rfl; have hcz15_3 : w13.cell? ⟨gb348, 3, none⟩ = some (.int .i64 0) := (blk_cell BK348.out 3).trans rfl; have hfz15_0 := blk_frozen BK348.out 0; have hfz15_1 := blk_frozen BK348.out 1; have hfz15_2 := blk_frozen BK348.out 2; have hfz15_3 := blk_frozen BK348.out 3))
         go_ret
         exact ⟨er_q, bw_q HB⟩
        ·rw [if_neg c12] at H
         have c12b0 : (((rd_T93 l0_1 x14_1).f1) == a2) = false := beq_eq_false_iff_ne.mpr c12
         have c12b1 : (((rd_T93 l0_1 x14_1).f1) != a2) = true := bne_iff_ne.mpr c12
         by_cases c16 : ((rd_T93 l0_1 x14_1).f0) = a2
         ·rw [if_pos c16] at H
          have c16b0 : (((rd_T93 l0_1 x14_1).f0) == a2) = true := beq_iff_eq.mpr c16
          have c16b1 : (((rd_T93 l0_1 x14_1).f0) != a2) = false := bne_eq_false_iff_eq.mpr c16
          clear c16
          have HC17 := Aside0.mk H
          clear H
          have p347 : 0 ≤ (x14_1 : Int) := of_decide_eq_true as_q
          have q347 : x14_1 < (l0_1.length : Int) := of_decide_eq_true as_q
          obtain ⟨ad347, e347, hx347_0, hx347_1, hx347_2, hx347_3⟩ := at_T93 HR0_1.out x14_1 p347 q347
          cases e347
          replace hx347_0 := (HB.out.cell (World.block_lt_of_cell? w _ hx347_0)).trans hx347_0
          replace hx347_1 := (HB.out.cell (World.block_lt_of_cell? w _ hx347_1)).trans hx347_1
          replace hx347_2 := (HB.out.cell (World.block_lt_of_cell? w _ hx347_2)).trans hx347_2
          replace hx347_3 := (HB.out.cell (World.block_lt_of_cell? w _ hx347_3)).trans hx347_3
          replace p347 := eq_true p347
          replace q347 := eq_true q347
          go_upto_if 46 with (first | ((with_reducible refine gate_dst (N := 10) rfl ?_); refine box_q 10 #[.int .i64 0, .int .i64 0, .int .i64 0, .int .i64 0] 93 ?_; intro gb348 hg w18 hbox hb; have BK348 := Aside0.mk (hbox); have GW348 := Aside0.mk ((by rw [hg]; exact (below_size (bw_q HB)) : w.heap.size ≤ gb348)); have GE348 := Aside0.mk ((by rw [hg]; exact (below_size (bw_q HB)) : w.heap.size ≤ gb348)); replace HB := Aside0.mk (below_step (bw_q HB) hb); have NB346_348 := Aside0.mk ((by rw [hg]; exact Nat.ne_of_lt (blk_lt (g := gb346) (o := .cells #[.int .i64 a0_0, .slice (some ad347) l0_1.length c0_1, .slice A0_2 l0_2.length c0_2] 31 (0, 0)) (bk_q BK346)) : gb346 ≠ gb348)); have NB348_346 := Aside0.mk ((by rw [hg]; exact Nat.ne_of_gt (blk_lt (g := gb346) (o := .cells #[.int .i64 a0_0, .slice (some ad347) l0_1.length c0_1, .slice A0_2 l0_2.length c0_2] 31 (0, 0)) (bk_q BK346)) : gb348 ≠ gb346)); replace BK346 := Aside0.mk (blk_below (g := gb346) (bk_q BK346) hb); clear hb hbox hg; have hnb19 := NB348_346.out; have hnc19 := NB346_348.out; have hcz20_0 : w18.cell? ⟨gb348, 0, none⟩ = some (.int .i64 0) := (blk_cell BK348.out 0).trans rfl; have hcz20_1 : w18.cell? ⟨gb348, 1, none⟩ = some (.int .i64 0) := (blk_cell BK348.out 1).trans rfl; have hcz20_2 : w18.cell? ⟨gb348, 2, none⟩ = some (.int .i64 0) := (blk_cell BK348.out 2).trans rfl; have hcz20_3 : w18.cell? ⟨gb348, 3, none⟩ = some (.int .i64 0) := (blk_cell BK348.out 3).trans rfl; have hfz20_0 := blk_frozen BK348.out 0; have hfz20_1 := blk_frozen BK348.out 1; have hfz20_2 := blk_frozen BK348.out 2; have hfz20_3 := blk_frozen BK348.out 3))
          have n0_ : Aside0 (((((w18.setCell ⟨gb348, 0, none⟩ (.int .i64 ((rd_T93 l0_1 x14_1).f0))).setCell ⟨gb348, 1, none⟩ (.int .i64 ((rd_T93 l0_1 x14_1).f1))).setCell ⟨gb348, 2, none⟩ (.int .i64 ((rd_T93 l0_1 x14_1).f2))).setCell ⟨gb348, 3, none⟩ (.int .i64 ((rd_T93 l0_1 x14_1).f3))).heap[gb346]? = some (.cells #[.int .i64 a0_0, .slice (some ad347) l0_1.length c0_1, .slice A0_2 l0_2.length c0_2] 31 (0, 0))) := ⟨by refine bz_ ?_; refine blk_far ?_ NB346_348.out _; refine bz_ ?_; refine blk_far ?_ NB346_348.out _; refine bz_ ?_; refine blk_far ?_ NB346_348.out _; refine bz_ ?_; refine blk_far ?_ NB346_348.out _; refine bz_ ?_; exact BK346.out⟩
          have n1_ : Aside0 (((((w18.setCell ⟨gb348, 0, none⟩ (.int .i64 ((rd_T93 l0_1 x14_1).f0))).setCell ⟨gb348, 1, none⟩ (.int .i64 ((rd_T93 l0_1 x14_1).f1))).setCell ⟨gb348, 2, none⟩ (.int .i64 ((rd_T93 l0_1 x14_1).f2))).setCell ⟨gb348, 3, none⟩ (.int .i64 ((rd_T93 l0_1 x14_1).f3))).heap[gb348]? = some (.cells #[.int .i64 ((rd_T93 l0_1 x14_1).f0), .int .i64 ((rd_T93 l0_1 x14_1).f1), .int .i64 ((rd_T93 l0_1 x14_1).f2), .int .i64 ((rd_T93 l0_1 x14_1).f3)] 93 (0, 0))) := ⟨by refine bz_ ?_; refine blk_put (cs := #[.int .i64 ((rd_T93 l0_1 x14_1).f0), .int .i64 ((rd_T93 l0_1 x14_1).f1), .int .i64 ((rd_T93 l0_1 x14_1).f2), .int .i64 0]) ?_ 3 _ rfl; refine bz_ ?_; refine blk_put (cs := #[.int .i64 ((rd_T93 l0_1 x14_1).f0), .int .i64 ((rd_T93 l0_1 x14_1).f1), .int .i64 0, .int .i64 0]) ?_ 2 _ rfl; refine bz_ ?_; refine blk_put (cs := #[.int .i64 ((rd_T93 l0_1 x14_1).f0), .int .i64 0, .int .i64 0, .int .i64 0]) ?_ 1 _ rfl; refine bz_ ?_; refine blk_put (cs := #[.int .i64 0, .int .i64 0, .int .i64 0, .int .i64 0]) ?_ 0 _ rfl; refine bz_ ?_; exact BK348.out⟩
          have n2_ : Aside0 (Below w.heap.size w ((((w18.setCell ⟨gb348, 0, none⟩ (.int .i64 ((rd_T93 l0_1 x14_1).f0))).setCell ⟨gb348, 1, none⟩ (.int .i64 ((rd_T93 l0_1 x14_1).f1))).setCell ⟨gb348, 2, none⟩ (.int .i64 ((rd_T93 l0_1 x14_1).f2))).setCell ⟨gb348, 3, none⟩ (.int .i64 ((rd_T93 l0_1 x14_1).f3)))) := ⟨bw_q HB⟩
          (try clear BK346)
          (try clear BK348)
          (try clear HB)
          generalize ((((w18.setCell ⟨gb348, 0, none⟩ (.int .i64 ((rd_T93 l0_1 x14_1).f0))).setCell ⟨gb348, 1, none⟩ (.int .i64 ((rd_T93 l0_1 x14_1).f1))).setCell ⟨gb348, 2, none⟩ (.int .i64 ((rd_T93 l0_1 x14_1).f2))).setCell ⟨gb348, 3, none⟩ (.int .i64 ((rd_T93 l0_1 x14_1).f3))) = w21 at n0_ n1_ n2_ ⊢
          have BK346 := n0_
          have BK348 := n1_
          have HB := n2_
          clear n0_ n1_ n2_
          (try clear hx347_0); (try clear hx347_1); (try clear hx347_2); (try clear hx347_3)
          have H := HC17.out
          clear HC17
          by_cases c22 : ((rd_T93 l0_1 x14_1).f1) = a1
          ·rw [if_pos c22] at H
           have c22b0 : (((rd_T93 l0_1 x14_1).f1) == a1) = true := beq_iff_eq.mpr c22
           have c22b1 : (((rd_T93 l0_1 x14_1).f1) != a1) = false := bne_eq_false_iff_eq.mpr c22
           clear c22
           (first | rw [c22b0] | rw [c22b1] | (simp only [i64_w, i32_w]; first | rw [c22b0] | rw [c22b1]) | skip)
           obtain rfl := Option.some.inj H
           go_wp2
           go_ret
           exact ⟨er_q, bw_q HB⟩
          ·rw [if_neg c22] at H
           have c22b0 : (((rd_T93 l0_1 x14_1).f1) == a1) = false := beq_eq_false_iff_ne.mpr c22
           have c22b1 : (((rd_T93 l0_1 x14_1).f1) != a1) = true := bne_iff_ne.mpr c22
           (first | rw [c22b0] | rw [c22b1] | (simp only [i64_w, i32_w]; first | rw [c22b0] | rw [c22b1]) | skip)
           have H' := Aside0.mk H
           clear H
           go_wp2
           go_roundg k1
           case measure => have := HK1.out; omega
           case rel => exact ⟨(wrap64 (x14_1 + 1)), (by first | rfl | (simp; done) | (simp [*]; done)), H', ⟨by have := HK1.out; omega⟩, ⟨by refine bz_ ?_; exact BK346.out⟩, ⟨bw_q HB⟩⟩
         ·rw [if_neg c16] at H
          have c16b0 : (((rd_T93 l0_1 x14_1).f0) == a2) = false := beq_eq_false_iff_ne.mpr c16
          have c16b1 : (((rd_T93 l0_1 x14_1).f0) != a2) = true := bne_iff_ne.mpr c16
          have HC23 := Aside0.mk H
          clear H
          have p347 : 0 ≤ (x14_1 : Int) := of_decide_eq_true as_q
          have q347 : x14_1 < (l0_1.length : Int) := of_decide_eq_true as_q
          obtain ⟨ad347, e347, hx347_0, hx347_1, hx347_2, hx347_3⟩ := at_T93 HR0_1.out x14_1 p347 q347
          cases e347
          replace hx347_0 := (HB.out.cell (World.block_lt_of_cell? w _ hx347_0)).trans hx347_0
          replace hx347_1 := (HB.out.cell (World.block_lt_of_cell? w _ hx347_1)).trans hx347_1
          replace hx347_2 := (HB.out.cell (World.block_lt_of_cell? w _ hx347_2)).trans hx347_2
          replace hx347_3 := (HB.out.cell (World.block_lt_of_cell? w _ hx347_3)).trans hx347_3
          replace p347 := eq_true p347
          replace q347 := eq_true q347
          go_upto_if 46 with (first | ((with_reducible refine gate_dst (N := 10) rfl ?_); refine box_q 10 #[.int .i64 0, .int .i64 0, .int .i64 0, .int .i64 0] 93 ?_; intro gb348 hg w24 hbox hb; have BK348 := Aside0.mk (hbox); have GW348 := Aside0.mk ((by rw [hg]; exact (below_size (bw_q HB)) : w.heap.size ≤ gb348)); have GE348 := Aside0.mk ((by rw [hg]; exact (below_size (bw_q HB)) : w.heap.size ≤ gb348)); replace HB := Aside0.mk (below_step (bw_q HB) hb); have NB346_348 := Aside0.mk ((by rw [hg]; exact Nat.ne_of_lt (blk_lt (g := gb346) (o := .cells #[.int .i64 a0_0, .slice (some ad347) l0_1.length c0_1, .slice A0_2 l0_2.length c0_2] 31 (0, 0)) (bk_q BK346)) : gb346 ≠ gb348)); have NB348_346 := Aside0.mk ((by rw [hg]; exact Nat.ne_of_gt (blk_lt (g := gb346) (o := .cells #[.int .i64 a0_0, .slice (some ad347) l0_1.length c0_1, .slice A0_2 l0_2.length c0_2] 31 (0, 0)) (bk_q BK346)) : gb348 ≠ gb346)); replace BK346 := Aside0.mk (blk_below (g := gb346) (bk_q BK346) hb); clear hb hbox hg; have hnb25 := NB348_346.out; have hnc25 := NB346_348.out; have hcz26_0 : w24.cell? ⟨gb348, 0, none⟩ = some (.int .i64 0) := (blk_cell BK348.out 0).trans rfl; have hcz26_1 : w24.cell? ⟨gb348, 1, none⟩ = some (.int .i64 0) := (blk_cell BK348.out 1).trans rfl; have hcz26_2 : w24.cell? ⟨gb348, 2, none⟩ = some (.int .i64 0) := (blk_cell BK348.out 2).trans rfl; have hcz26_3 : w24.cell? ⟨gb348, 3, none⟩ = some (.int .i64 0) := (blk_cell BK348.out 3).trans rfl; have hfz26_0 := blk_frozen BK348.out 0; have hfz26_1 := blk_frozen BK348.out 1; have hfz26_2 := blk_frozen BK348.out 2; have hfz26_3 := blk_frozen BK348.out 3))
          have n0_ : Aside0 (((((w24.setCell ⟨gb348, 0, none⟩ (.int .i64 ((rd_T93 l0_1 x14_1).f0))).setCell ⟨gb348, 1, none⟩ (.int .i64 ((rd_T93 l0_1 x14_1).f1))).setCell ⟨gb348, 2, none⟩ (.int .i64 ((rd_T93 l0_1 x14_1).f2))).setCell ⟨gb348, 3, none⟩ (.int .i64 ((rd_T93 l0_1 x14_1).f3))).heap[gb346]? = some (.cells #[.int .i64 a0_0, .slice (some ad347) l0_1.length c0_1, .slice A0_2 l0_2.length c0_2] 31 (0, 0))) := ⟨by refine bz_ ?_; refine blk_far ?_ NB346_348.out _; refine bz_ ?_; refine blk_far ?_ NB346_348.out _; refine bz_ ?_; refine blk_far ?_ NB346_348.out _; refine bz_ ?_; refine blk_far ?_ NB346_348.out _; refine bz_ ?_; exact BK346.out⟩
          have n1_ : Aside0 (((((w24.setCell ⟨gb348, 0, none⟩ (.int .i64 ((rd_T93 l0_1 x14_1).f0))).setCell ⟨gb348, 1, none⟩ (.int .i64 ((rd_T93 l0_1 x14_1).f1))).setCell ⟨gb348, 2, none⟩ (.int .i64 ((rd_T93 l0_1 x14_1).f2))).setCell ⟨gb348, 3, none⟩ (.int .i64 ((rd_T93 l0_1 x14_1).f3))).heap[gb348]? = some (.cells #[.int .i64 ((rd_T93 l0_1 x14_1).f0), .int .i64 ((rd_T93 l0_1 x14_1).f1), .int .i64 ((rd_T93 l0_1 x14_1).f2), .int .i64 ((rd_T93 l0_1 x14_1).f3)] 93 (0, 0))) := ⟨by refine bz_ ?_; refine blk_put (cs := #[.int .i64 ((rd_T93 l0_1 x14_1).f0), .int .i64 ((rd_T93 l0_1 x14_1).f1), .int .i64 ((rd_T93 l0_1 x14_1).f2), .int .i64 0]) ?_ 3 _ rfl; refine bz_ ?_; refine blk_put (cs := #[.int .i64 ((rd_T93 l0_1 x14_1).f0), .int .i64 ((rd_T93 l0_1 x14_1).f1), .int .i64 0, .int .i64 0]) ?_ 2 _ rfl; refine bz_ ?_; refine blk_put (cs := #[.int .i64 ((rd_T93 l0_1 x14_1).f0), .int .i64 0, .int .i64 0, .int .i64 0]) ?_ 1 _ rfl; refine bz_ ?_; refine blk_put (cs := #[.int .i64 0, .int .i64 0, .int .i64 0, .int .i64 0]) ?_ 0 _ rfl; refine bz_ ?_; exact BK348.out⟩
          have n2_ : Aside0 (Below w.heap.size w ((((w24.setCell ⟨gb348, 0, none⟩ (.int .i64 ((rd_T93 l0_1 x14_1).f0))).setCell ⟨gb348, 1, none⟩ (.int .i64 ((rd_T93 l0_1 x14_1).f1))).setCell ⟨gb348, 2, none⟩ (.int .i64 ((rd_T93 l0_1 x14_1).f2))).setCell ⟨gb348, 3, none⟩ (.int .i64 ((rd_T93 l0_1 x14_1).f3)))) := ⟨bw_q HB⟩
          (try clear BK346)
          (try clear BK348)
          (try clear HB)
          generalize ((((w24.setCell ⟨gb348, 0, none⟩ (.int .i64 ((rd_T93 l0_1 x14_1).f0))).setCell ⟨gb348, 1, none⟩ (.int .i64 ((rd_T93 l0_1 x14_1).f1))).setCell ⟨gb348, 2, none⟩ (.int .i64 ((rd_T93 l0_1 x14_1).f2))).setCell ⟨gb348, 3, none⟩ (.int .i64 ((rd_T93 l0_1 x14_1).f3))) = w27 at n0_ n1_ n2_ ⊢
          have BK346 := n0_
          have BK348 := n1_
          have HB := n2_
          clear n0_ n1_ n2_
          (try clear hx347_0); (try clear hx347_1); (try clear hx347_2); (try clear hx347_3)
          have H := HC23.out
          clear HC23
          have H' := Aside0.mk H
          clear H
          go_wp2
          go_roundg k1
          case measure => have := HK1.out; omega
          case rel => exact ⟨(wrap64 (x14_1 + 1)), (by first | rfl | (simp; done) | (simp [*]; done)), H', ⟨by have := HK1.out; omega⟩, ⟨by refine bz_ ?_; exact BK346.out⟩, ⟨bw_q HB⟩⟩
       ·rw [if_neg c11] at H
        have c11b0 : (((rd_T93 l0_1 x14_1).f0) == a1) = false := beq_eq_false_iff_ne.mpr c11
        have c11b1 : (((rd_T93 l0_1 x14_1).f0) != a1) = true := bne_iff_ne.mpr c11
        by_cases c28 : ((rd_T93 l0_1 x14_1).f0) = a2
        ·rw [if_pos c28] at H
         have c28b0 : (((rd_T93 l0_1 x14_1).f0) == a2) = true := beq_iff_eq.mpr c28
         have c28b1 : (((rd_T93 l0_1 x14_1).f0) != a2) = false := bne_eq_false_iff_eq.mpr c28
         clear c28
         have HC29 := Aside0.mk H
         clear H
         have p347 : 0 ≤ (x14_1 : Int) := of_decide_eq_true as_q
         have q347 : x14_1 < (l0_1.length : Int) := of_decide_eq_true as_q
         obtain ⟨ad347, e347, hx347_0, hx347_1, hx347_2, hx347_3⟩ := at_T93 HR0_1.out x14_1 p347 q347
         cases e347
         replace hx347_0 := (HB.out.cell (World.block_lt_of_cell? w _ hx347_0)).trans hx347_0
         replace hx347_1 := (HB.out.cell (World.block_lt_of_cell? w _ hx347_1)).trans hx347_1
         replace hx347_2 := (HB.out.cell (World.block_lt_of_cell? w _ hx347_2)).trans hx347_2
         replace hx347_3 := (HB.out.cell (World.block_lt_of_cell? w _ hx347_3)).trans hx347_3
         replace p347 := eq_true p347
         replace q347 := eq_true q347
         go_upto_if 46 with (first | ((with_reducible refine gate_dst (N := 10) rfl ?_); refine box_q 10 #[.int .i64 0, .int .i64 0, .int .i64 0, .int .i64 0] 93 ?_; intro gb348 hg w30 hbox hb; have BK348 := Aside0.mk (hbox); have GW348 := Aside0.mk ((by rw [hg]; exact (below_size (bw_q HB)) : w.heap.size ≤ gb348)); have GE348 := Aside0.mk ((by rw [hg]; exact (below_size (bw_q HB)) : w.heap.size ≤ gb348)); replace HB := Aside0.mk (below_step (bw_q HB) hb); have NB346_348 := Aside0.mk ((by rw [hg]; exact Nat.ne_of_lt (blk_lt (g := gb346) (o := .cells #[.int .i64 a0_0, .slice (some ad347) l0_1.length c0_1, .slice A0_2 l0_2.length c0_2] 31 (0, 0)) (bk_q BK346)) : gb346 ≠ gb348)); have NB348_346 := Aside0.mk ((by rw [hg]; exact Nat.ne_of_gt (blk_lt (g := gb346) (o := .cells #[.int .i64 a0_0, .slice (some ad347) l0_1.length c0_1, .slice A0_2 l0_2.length c0_2] 31 (0, 0)) (bk_q BK346)) : gb348 ≠ gb346)); replace BK346 := Aside0.mk (blk_below (g := gb346) (bk_q BK346) hb); clear hb hbox hg; have hnb31 := NB348_346.out; have hnc31 := NB346_348.out; have hcz32_0 : w30.cell? ⟨gb348, 0, none⟩ = some (.int .i64 0) := (blk_cell BK348.out 0).trans rfl; have hcz32_1 : w30.cell? ⟨gb348, 1, none⟩ = some (.int .i64 0) := (blk_cell BK348.out 1).trans rfl; have hcz32_2 : w30.cell? ⟨gb348, 2, none⟩ = some (.int .i64 0) := (blk_cell BK348.out 2).trans rfl; have hcz32_3 : w30.cell? ⟨gb348, 3, none⟩ = some (.int .i64 0) := (blk_cell BK348.out 3).trans rfl; have hfz32_0 := blk_frozen BK348.out 0; have hfz32_1 := blk_frozen BK348.out 1; have hfz32_2 := blk_frozen BK348.out 2; have hfz32_3 := blk_frozen BK348.out 3))
         have n0_ : Aside0 (((((w30.setCell ⟨gb348, 0, none⟩ (.int .i64 ((rd_T93 l0_1 x14_1).f0))).setCell ⟨gb348, 1, none⟩ (.int .i64 ((rd_T93 l0_1 x14_1).f1))).setCell ⟨gb348, 2, none⟩ (.int .i64 ((rd_T93 l0_1 x14_1).f2))).setCell ⟨gb348, 3, none⟩ (.int .i64 ((rd_T93 l0_1 x14_1).f3))).heap[gb346]? = some (.cells #[.int .i64 a0_0, .slice (some ad347) l0_1.length c0_1, .slice A0_2 l0_2.length c0_2] 31 (0, 0))) := ⟨by refine bz_ ?_; refine blk_far ?_ NB346_348.out _; refine bz_ ?_; refine blk_far ?_ NB346_348.out _; refine bz_ ?_; refine blk_far ?_ NB346_348.out _; refine bz_ ?_; refine blk_far ?_ NB346_348.out _; refine bz_ ?_; exact BK346.out⟩
         have n1_ : Aside0 (((((w30.setCell ⟨gb348, 0, none⟩ (.int .i64 ((rd_T93 l0_1 x14_1).f0))).setCell ⟨gb348, 1, none⟩ (.int .i64 ((rd_T93 l0_1 x14_1).f1))).setCell ⟨gb348, 2, none⟩ (.int .i64 ((rd_T93 l0_1 x14_1).f2))).setCell ⟨gb348, 3, none⟩ (.int .i64 ((rd_T93 l0_1 x14_1).f3))).heap[gb348]? = some (.cells #[.int .i64 ((rd_T93 l0_1 x14_1).f0), .int .i64 ((rd_T93 l0_1 x14_1).f1), .int .i64 ((rd_T93 l0_1 x14_1).f2), .int .i64 ((rd_T93 l0_1 x14_1).f3)] 93 (0, 0))) := ⟨by refine bz_ ?_; refine blk_put (cs := #[.int .i64 ((rd_T93 l0_1 x14_1).f0), .int .i64 ((rd_T93 l0_1 x14_1).f1), .int .i64 ((rd_T93 l0_1 x14_1).f2), .int .i64 0]) ?_ 3 _ rfl; refine bz_ ?_; refine blk_put (cs := #[.int .i64 ((rd_T93 l0_1 x14_1).f0), .int .i64 ((rd_T93 l0_1 x14_1).f1), .int .i64 0, .int .i64 0]) ?_ 2 _ rfl; refine bz_ ?_; refine blk_put (cs := #[.int .i64 ((rd_T93 l0_1 x14_1).f0), .int .i64 0, .int .i64 0, .int .i64 0]) ?_ 1 _ rfl; refine bz_ ?_; refine blk_put (cs := #[.int .i64 0, .int .i64 0, .int .i64 0, .int .i64 0]) ?_ 0 _ rfl; refine bz_ ?_; exact BK348.out⟩
         have n2_ : Aside0 (Below w.heap.size w ((((w30.setCell ⟨gb348, 0, none⟩ (.int .i64 ((rd_T93 l0_1 x14_1).f0))).setCell ⟨gb348, 1, none⟩ (.int .i64 ((rd_T93 l0_1 x14_1).f1))).setCell ⟨gb348, 2, none⟩ (.int .i64 ((rd_T93 l0_1 x14_1).f2))).setCell ⟨gb348, 3, none⟩ (.int .i64 ((rd_T93 l0_1 x14_1).f3)))) := ⟨bw_q HB⟩
         (try clear BK346)
         (try clear BK348)
         (try clear HB)
         generalize ((((w30.setCell ⟨gb348, 0, none⟩ (.int .i64 ((rd_T93 l0_1 x14_1).f0))).setCell ⟨gb348, 1, none⟩ (.int .i64 ((rd_T93 l0_1 x14_1).f1))).setCell ⟨gb348, 2, none⟩ (.int .i64 ((rd_T93 l0_1 x14_1).f2))).setCell ⟨gb348, 3, none⟩ (.int .i64 ((rd_T93 l0_1 x14_1).f3))) = w33 at n0_ n1_ n2_ ⊢
         have BK346 := n0_
         have BK348 := n1_
         have HB := n2_
         clear n0_ n1_ n2_
         (try clear hx347_0); (try clear hx347_1); (try clear hx347_2); (try clear hx347_3)
         have H := HC29.out
         clear HC29
         by_cases c34 : ((rd_T93 l0_1 x14_1).f1) = a1
         ·rw [if_pos c34] at H
          have c34b0 : (((rd_T93 l0_1 x14_1).f1) == a1) = true := beq_iff_eq.mpr c34
          have c34b1 : (((rd_T93 l0_1 x14_1).f1) != a1) = false := bne_eq_false_iff_eq.mpr c34
          clear c34
          (first | rw [c34b0] | rw [c34b1] | (simp only [i64_w, i32_w]; first | rw [c34b0] | rw [c34b1]) | skip)
          obtain rfl := Option.some.inj H
          go_wp2
          go_ret
          exact ⟨er_q, bw_q HB⟩
         ·rw [if_neg c34] at H
          have c34b0 : (((rd_T93 l0_1 x14_1).f1) == a1) = false := beq_eq_false_iff_ne.mpr c34
          have c34b1 : (((rd_T93 l0_1 x14_1).f1) != a1) = true := bne_iff_ne.mpr c34
          (first | rw [c34b0] | rw [c34b1] | (simp only [i64_w, i32_w]; first | rw [c34b0] | rw [c34b1]) | skip)
          have H' := Aside0.mk H
          clear H
          go_wp2
          go_roundg k1
          case measure => have := HK1.out; omega
          case rel => exact ⟨(wrap64 (x14_1 + 1)), (by first | rfl | (simp; done) | (simp [*]; done)), H', ⟨by have := HK1.out; omega⟩, ⟨by refine bz_ ?_; exact BK346.out⟩, ⟨bw_q HB⟩⟩
        ·rw [if_neg c28] at H
         have c28b0 : (((rd_T93 l0_1 x14_1).f0) == a2) = false := beq_eq_false_iff_ne.mpr c28
         have c28b1 : (((rd_T93 l0_1 x14_1).f0) != a2) = true := bne_iff_ne.mpr c28
         have HC35 := Aside0.mk H
         clear H
         have p347 : 0 ≤ (x14_1 : Int) := of_decide_eq_true as_q
         have q347 : x14_1 < (l0_1.length : Int) := of_decide_eq_true as_q
         obtain ⟨ad347, e347, hx347_0, hx347_1, hx347_2, hx347_3⟩ := at_T93 HR0_1.out x14_1 p347 q347
         cases e347
         replace hx347_0 := (HB.out.cell (World.block_lt_of_cell? w _ hx347_0)).trans hx347_0
         replace hx347_1 := (HB.out.cell (World.block_lt_of_cell? w _ hx347_1)).trans hx347_1
         replace hx347_2 := (HB.out.cell (World.block_lt_of_cell? w _ hx347_2)).trans hx347_2
         replace hx347_3 := (HB.out.cell (World.block_lt_of_cell? w _ hx347_3)).trans hx347_3
         replace p347 := eq_true p347
         replace q347 := eq_true q347
         go_upto_if 46 with (first | ((with_reducible refine gate_dst (N := 10) rfl ?_); refine box_q 10 #[.int .i64 0, .int .i64 0, .int .i64 0, .int .i64 0] 93 ?_; intro gb348 hg w36 hbox hb; have BK348 := Aside0.mk (hbox); have GW348 := Aside0.mk ((by rw [hg]; exact (below_size (bw_q HB)) : w.heap.size ≤ gb348)); have GE348 := Aside0.mk ((by rw [hg]; exact (below_size (bw_q HB)) : w.heap.size ≤ gb348)); replace HB := Aside0.mk (below_step (bw_q HB) hb); have NB346_348 := Aside0.mk ((by rw [hg]; exact Nat.ne_of_lt (blk_lt (g := gb346) (o := .cells #[.int .i64 a0_0, .slice (some ad347) l0_1.length c0_1, .slice A0_2 l0_2.length c0_2] 31 (0, 0)) (bk_q BK346)) : gb346 ≠ gb348)); have NB348_346 := Aside0.mk ((by rw [hg]; exact Nat.ne_of_gt (blk_lt (g := gb346) (o := .cells #[.int .i64 a0_0, .slice (some ad347) l0_1.length c0_1, .slice A0_2 l0_2.length c0_2] 31 (0, 0)) (bk_q BK346)) : gb348 ≠ gb346)); replace BK346 := Aside0.mk (blk_below (g := gb346) (bk_q BK346) hb); clear hb hbox hg; have hnb37 := NB348_346.out; have hnc37 := NB346_348.out; have hcz38_0 : w36.cell? ⟨gb348, 0, none⟩ = some (.int .i64 0) := (blk_cell BK348.out 0).trans rfl; have hcz38_1 : w36.cell? ⟨gb348, 1, none⟩ = some (.int .i64 0) := (blk_cell BK348.out 1).trans rfl; have hcz38_2 : w36.cell? ⟨gb348, 2, none⟩ = some (.int .i64 0) := (blk_cell BK348.out 2).trans rfl; have hcz38_3 : w36.cell? ⟨gb348, 3, none⟩ = some (.int .i64 0) := (blk_cell BK348.out 3).trans rfl; have hfz38_0 := blk_frozen BK348.out 0; have hfz38_1 := blk_frozen BK348.out 1; have hfz38_2 := blk_frozen BK348.out 2; have hfz38_3 := blk_frozen BK348.out 3))
         have n0_ : Aside0 (((((w36.setCell ⟨gb348, 0, none⟩ (.int .i64 ((rd_T93 l0_1 x14_1).f0))).setCell ⟨gb348, 1, none⟩ (.int .i64 ((rd_T93 l0_1 x14_1).f1))).setCell ⟨gb348, 2, none⟩ (.int .i64 ((rd_T93 l0_1 x14_1).f2))).setCell ⟨gb348, 3, none⟩ (.int .i64 ((rd_T93 l0_1 x14_1).f3))).heap[gb346]? = some (.cells #[.int .i64 a0_0, .slice (some ad347) l0_1.length c0_1, .slice A0_2 l0_2.length c0_2] 31 (0, 0))) := ⟨by refine bz_ ?_; refine blk_far ?_ NB346_348.out _; refine bz_ ?_; refine blk_far ?_ NB346_348.out _; refine bz_ ?_; refine blk_far ?_ NB346_348.out _; refine bz_ ?_; refine blk_far ?_ NB346_348.out _; refine bz_ ?_; exact BK346.out⟩
         have n1_ : Aside0 (((((w36.setCell ⟨gb348, 0, none⟩ (.int .i64 ((rd_T93 l0_1 x14_1).f0))).setCell ⟨gb348, 1, none⟩ (.int .i64 ((rd_T93 l0_1 x14_1).f1))).setCell ⟨gb348, 2, none⟩ (.int .i64 ((rd_T93 l0_1 x14_1).f2))).setCell ⟨gb348, 3, none⟩ (.int .i64 ((rd_T93 l0_1 x14_1).f3))).heap[gb348]? = some (.cells #[.int .i64 ((rd_T93 l0_1 x14_1).f0), .int .i64 ((rd_T93 l0_1 x14_1).f1), .int .i64 ((rd_T93 l0_1 x14_1).f2), .int .i64 ((rd_T93 l0_1 x14_1).f3)] 93 (0, 0))) := ⟨by refine bz_ ?_; refine blk_put (cs := #[.int .i64 ((rd_T93 l0_1 x14_1).f0), .int .i64 ((rd_T93 l0_1 x14_1).f1), .int .i64 ((rd_T93 l0_1 x14_1).f2), .int .i64 0]) ?_ 3 _ rfl; refine bz_ ?_; refine blk_put (cs := #[.int .i64 ((rd_T93 l0_1 x14_1).f0), .int .i64 ((rd_T93 l0_1 x14_1).f1), .int .i64 0, .int .i64 0]) ?_ 2 _ rfl; refine bz_ ?_; refine blk_put (cs := #[.int .i64 ((rd_T93 l0_1 x14_1).f0), .int .i64 0, .int .i64 0, .int .i64 0]) ?_ 1 _ rfl; refine bz_ ?_; refine blk_put (cs := #[.int .i64 0, .int .i64 0, .int .i64 0, .int .i64 0]) ?_ 0 _ rfl; refine bz_ ?_; exact BK348.out⟩
         have n2_ : Aside0 (Below w.heap.size w ((((w36.setCell ⟨gb348, 0, none⟩ (.int .i64 ((rd_T93 l0_1 x14_1).f0))).setCell ⟨gb348, 1, none⟩ (.int .i64 ((rd_T93 l0_1 x14_1).f1))).setCell ⟨gb348, 2, none⟩ (.int .i64 ((rd_T93 l0_1 x14_1).f2))).setCell ⟨gb348, 3, none⟩ (.int .i64 ((rd_T93 l0_1 x14_1).f3)))) := ⟨bw_q HB⟩
         (try clear BK346)
         (try clear BK348)
         (try clear HB)
         generalize ((((w36.setCell ⟨gb348, 0, none⟩ (.int .i64 ((rd_T93 l0_1 x14_1).f0))).setCell ⟨gb348, 1, none⟩ (.int .i64 ((rd_T93 l0_1 x14_1).f1))).setCell ⟨gb348, 2, none⟩ (.int .i64 ((rd_T93 l0_1 x14_1).f2))).setCell ⟨gb348, 3, none⟩ (.int .i64 ((rd_T93 l0_1 x14_1).f3))) = w39 at n0_ n1_ n2_ ⊢
         have BK346 := n0_
         have BK348 := n1_
         have HB := n2_
         clear n0_ n1_ n2_
         (try clear hx347_0); (try clear hx347_1); (try clear hx347_2); (try clear hx347_3)
         have H := HC35.out
         clear HC35
         have H' := Aside0.mk H
         clear H
         go_wp2
         go_roundg k1
         case measure => have := HK1.out; omega
         case rel => exact ⟨(wrap64 (x14_1 + 1)), (by first | rfl | (simp; done) | (simp [*]; done)), H', ⟨by have := HK1.out; omega⟩, ⟨by refine bz_ ?_; exact BK346.out⟩, ⟨bw_q HB⟩⟩
      ·rw [if_neg c10] at H
       have c10b0 : (((rd_T93 l0_1 x14_1).f3) == a3) = false := beq_eq_false_iff_ne.mpr c10
       have c10b1 : (((rd_T93 l0_1 x14_1).f3) != a3) = true := bne_iff_ne.mpr c10
       have HC40 := Aside0.mk H
       clear H
       have p347 : 0 ≤ (x14_1 : Int) := of_decide_eq_true as_q
       have q347 : x14_1 < (l0_1.length : Int) := of_decide_eq_true as_q
       obtain ⟨ad347, e347, hx347_0, hx347_1, hx347_2, hx347_3⟩ := at_T93 HR0_1.out x14_1 p347 q347
       cases e347
       replace hx347_0 := (HB.out.cell (World.block_lt_of_cell? w _ hx347_0)).trans hx347_0
       replace hx347_1 := (HB.out.cell (World.block_lt_of_cell? w _ hx347_1)).trans hx347_1
       replace hx347_2 := (HB.out.cell (World.block_lt_of_cell? w _ hx347_2)).trans hx347_2
       replace hx347_3 := (HB.out.cell (World.block_lt_of_cell? w _ hx347_3)).trans hx347_3
       replace p347 := eq_true p347
       replace q347 := eq_true q347
       go_upto_if 46 with (first | ((with_reducible refine gate_dst (N := 10) rfl ?_); refine box_q 10 #[.int .i64 0, .int .i64 0, .int .i64 0, .int .i64 0] 93 ?_; intro gb348 hg w41 hbox hb; have BK348 := Aside0.mk (hbox); have GW348 := Aside0.mk ((by rw [hg]; exact (below_size (bw_q HB)) : w.heap.size ≤ gb348)); have GE348 := Aside0.mk ((by rw [hg]; exact (below_size (bw_q HB)) : w.heap.size ≤ gb348)); replace HB := Aside0.mk (below_step (bw_q HB) hb); have NB346_348 := Aside0.mk ((by rw [hg]; exact Nat.ne_of_lt (blk_lt (g := gb346) (o := .cells #[.int .i64 a0_0, .slice (some ad347) l0_1.length c0_1, .slice A0_2 l0_2.length c0_2] 31 (0, 0)) (bk_q BK346)) : gb346 ≠ gb348)); have NB348_346 := Aside0.mk ((by rw [hg]; exact Nat.ne_of_gt (blk_lt (g := gb346) (o := .cells #[.int .i64 a0_0, .slice (some ad347) l0_1.length c0_1, .slice A0_2 l0_2.length c0_2] 31 (0, 0)) (bk_q BK346)) : gb348 ≠ gb346)); replace BK346 := Aside0.mk (blk_below (g := gb346) (bk_q BK346) hb); clear hb hbox hg; have hnb42 := NB348_346.out; have hnc42 := NB346_348.out; have hcz43_0 : w41.cell? ⟨gb348, 0, none⟩ = some (.int .i64 0) := (blk_cell BK348.out 0).trans rfl; have hcz43_1 : w41.cell? ⟨gb348, 1, none⟩ = some (.int .i64 0) := (blk_cell BK348.out 1).trans rfl; have hcz43_2 : w41.cell? ⟨gb348, 2, none⟩ = some (.int .i64 0) := (blk_cell BK348.out 2).trans rfl; have hcz43_3 : w41.cell? ⟨gb348, 3, none⟩ = some (.int .i64 0) := (blk_cell BK348.out 3).trans rfl; have hfz43_0 := blk_frozen BK348.out 0; have hfz43_1 := blk_frozen BK348.out 1; have hfz43_2 := blk_frozen BK348.out 2; have hfz43_3 := blk_frozen BK348.out 3))
       have n0_ : Aside0 (((((w41.setCell ⟨gb348, 0, none⟩ (.int .i64 ((rd_T93 l0_1 x14_1).f0))).setCell ⟨gb348, 1, none⟩ (.int .i64 ((rd_T93 l0_1 x14_1).f1))).setCell ⟨gb348, 2, none⟩ (.int .i64 ((rd_T93 l0_1 x14_1).f2))).setCell ⟨gb348, 3, none⟩ (.int .i64 ((rd_T93 l0_1 x14_1).f3))).heap[gb346]? = some (.cells #[.int .i64 a0_0, .slice (some ad347) l0_1.length c0_1, .slice A0_2 l0_2.length c0_2] 31 (0, 0))) := ⟨by refine bz_ ?_; refine blk_far ?_ NB346_348.out _; refine bz_ ?_; refine blk_far ?_ NB346_348.out _; refine bz_ ?_; refine blk_far ?_ NB346_348.out _; refine bz_ ?_; refine blk_far ?_ NB346_348.out _; refine bz_ ?_; exact BK346.out⟩
       have n1_ : Aside0 (((((w41.setCell ⟨gb348, 0, none⟩ (.int .i64 ((rd_T93 l0_1 x14_1).f0))).setCell ⟨gb348, 1, none⟩ (.int .i64 ((rd_T93 l0_1 x14_1).f1))).setCell ⟨gb348, 2, none⟩ (.int .i64 ((rd_T93 l0_1 x14_1).f2))).setCell ⟨gb348, 3, none⟩ (.int .i64 ((rd_T93 l0_1 x14_1).f3))).heap[gb348]? = some (.cells #[.int .i64 ((rd_T93 l0_1 x14_1).f0), .int .i64 ((rd_T93 l0_1 x14_1).f1), .int .i64 ((rd_T93 l0_1 x14_1).f2), .int .i64 ((rd_T93 l0_1 x14_1).f3)] 93 (0, 0))) := ⟨by refine bz_ ?_; refine blk_put (cs := #[.int .i64 ((rd_T93 l0_1 x14_1).f0), .int .i64 ((rd_T93 l0_1 x14_1).f1), .int .i64 ((rd_T93 l0_1 x14_1).f2), .int .i64 0]) ?_ 3 _ rfl; refine bz_ ?_; refine blk_put (cs := #[.int .i64 ((rd_T93 l0_1 x14_1).f0), .int .i64 ((rd_T93 l0_1 x14_1).f1), .int .i64 0, .int .i64 0]) ?_ 2 _ rfl; refine bz_ ?_; refine blk_put (cs := #[.int .i64 ((rd_T93 l0_1 x14_1).f0), .int .i64 0, .int .i64 0, .int .i64 0]) ?_ 1 _ rfl; refine bz_ ?_; refine blk_put (cs := #[.int .i64 0, .int .i64 0, .int .i64 0, .int .i64 0]) ?_ 0 _ rfl; refine bz_ ?_; exact BK348.out⟩
       have n2_ : Aside0 (Below w.heap.size w ((((w41.setCell ⟨gb348, 0, none⟩ (.int .i64 ((rd_T93 l0_1 x14_1).f0))).setCell ⟨gb348, 1, none⟩ (.int .i64 ((rd_T93 l0_1 x14_1).f1))).setCell ⟨gb348, 2, none⟩ (.int .i64 ((rd_T93 l0_1 x14_1).f2))).setCell ⟨gb348, 3, none⟩ (.int .i64 ((rd_T93 l0_1 x14_1).f3)))) := ⟨bw_q HB⟩
       (try clear BK346)
       (try clear BK348)
       (try clear HB)
       generalize ((((w41.setCell ⟨gb348, 0, none⟩ (.int .i64 ((rd_T93 l0_1 x14_1).f0))).setCell ⟨gb348, 1, none⟩ (.int .i64 ((rd_T93 l0_1 x14_1).f1))).setCell ⟨gb348, 2, none⟩ (.int .i64 ((rd_T93 l0_1 x14_1).f2))).setCell ⟨gb348, 3, none⟩ (.int .i64 ((rd_T93 l0_1 x14_1).f3))) = w44 at n0_ n1_ n2_ ⊢
       have BK346 := n0_
       have BK348 := n1_
       have HB := n2_
       clear n0_ n1_ n2_
       (try clear hx347_0); (try clear hx347_1); (try clear hx347_2); (try clear hx347_3)
       have H := HC40.out
       clear HC40
       have H' := Aside0.mk H
       clear H
       go_wp2
       go_roundg k1
       case measure => have := HK1.out; omega
       case rel => exact ⟨(wrap64 (x14_1 + 1)), (by first | rfl | (simp; done) | (simp [*]; done)), H', ⟨by have := HK1.out; omega⟩, ⟨by refine bz_ ?_; exact BK346.out⟩, ⟨bw_q HB⟩⟩
     ·rw [if_neg c9] at H
      exact absurd H (by simp)
    ·rw [if_neg c8] at H
     exact absurd H (by simp)
   ·rw [if_neg c7] at H
    have c7b0 : decide (x14_1 < (l0_1.length : Int)) = false := decide_eq_false c7
    clear c7
    obtain rfl := Option.some.inj H
    go_wp2
    go_ret
    exact ⟨er_q, bw_q HB⟩

end Go.Proofs.Ythjmdiggglkeaaa.Q
