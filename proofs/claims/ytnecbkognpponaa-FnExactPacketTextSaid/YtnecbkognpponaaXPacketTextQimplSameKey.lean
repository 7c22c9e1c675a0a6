import Derived.Test.YtnecbkognpponaaXPacketTextQlawstoNearS
import Derived.Test.YtnecbkognpponaaXPacketTextQimplBefore
/- A Go function as a Lean function, and its contract: for every input the Go code comes to what the Lean function tells. -/



namespace Go.Proofs.Ytnecbkognpponaa.Q
open Go.RowKit Go.Proofs.YtnecbkognpponaaW.PrintWords Go.Proofs.YtnecbkognpponaaW.PrintLast Go.Proofs.YtnecbkognpponaaW.PrintMore
attribute [local go_sem] max2_int min2_int max_two min_two max_three min_three max_four min_four   -- for this text's walks alone
set_option linter.unusedVariables false
set_option linter.unusedSimpArgs false

/-! ### impl_StoreOk: function 77 -/
def impl_StoreOk.l0 : Nat → List (S24) → List (S24) → Int → Int → Option (Bool)
 | 0, _, _, _, _ => none
 | k + 1, x0, x5, x6, x7 => if x7 < x6 then (if 0 ≤ x7 then (if x7 < (x5.length : Int) then ((impl_RecordOk.f k ((rd_T24 x5 x7).f0) ((rd_T24 x5 x7).f1) ((rd_T24 x5 x7).f2) ((rd_T24 x5 x7).f3) ((rd_T24 x5 x7).f4) ((rd_T24 x5 x7).f5) ((rd_T24 x5 x7).f6) ((rd_T24 x5 x7).f7)).bind fun t289 => (if t289 = true then (if x7 > 0 then (if 0 ≤ (wrap64 (x7 - 1)) then (if (wrap64 (x7 - 1)) < (x0.length : Int) then ((impl_Before.f ((rd_T24 x0 (wrap64 (x7 - 1))).f0) ((rd_T24 x0 (wrap64 (x7 - 1))).f1) ((rd_T24 x0 (wrap64 (x7 - 1))).f2) ((rd_T24 x0 (wrap64 (x7 - 1))).f3) ((rd_T24 x0 (wrap64 (x7 - 1))).f4) ((rd_T24 x0 (wrap64 (x7 - 1))).f5) ((rd_T24 x0 (wrap64 (x7 - 1))).f6) ((rd_T24 x0 (wrap64 (x7 - 1))).f7) ((rd_T24 x5 x7).f0) ((rd_T24 x5 x7).f1) ((rd_T24 x5 x7).f2) ((rd_T24 x5 x7).f3) ((rd_T24 x5 x7).f4) ((rd_T24 x5 x7).f5) ((rd_T24 x5 x7).f6) ((rd_T24 x5 x7).f7)).bind fun t291 => (if t291 = true then (impl_StoreOk.l0 k x0 x5 x6 (wrap64 (x7 + 1))) else (some false))) else (none)) else (none)) else (impl_StoreOk.l0 k x0 x5 x6 (wrap64 (x7 + 1)))) else (some false))) else (none)) else (none)) else (some (decide ((x0.length : Int) ≤ 150)))
def impl_StoreOk.f (k : Nat) (l0 : List (S24)) : Option (Bool) := impl_StoreOk.l0 k l0 l0 (l0.length : Int) 0
theorem impl_StoreOk.mono_l : ∀ k, (∀ y0 y1 y2 y3, LeO (impl_StoreOk.l0 k y0 y1 y2 y3) (impl_StoreOk.l0 (k + 1) y0 y1 y2 y3))
 | 0 => fun _ _ _ _ r h => by simp [impl_StoreOk.l0] at h
 | k + 1 => by
  have ih0 := impl_StoreOk.mono_l k
  ·intro y0 y1 y2 y3
   unfold impl_StoreOk.l0
   repeat' first
   | (with_reducible exact ih0 _ _ _ _)
   | (with_reducible exact impl_RecordOk.mono _ _ _ _ _ _ _ _ _)
   | (with_reducible exact LeO.refl _)
   | (with_reducible exact LeO.none _)
   | (with_reducible refine LeO.ite ?_ ?_)
   | (with_reducible refine LeO.bind ?_ (fun _ => ?_))
   | exact ih0 _ _ _ _
   | exact impl_RecordOk.mono _ _ _ _ _ _ _ _ _
   | exact LeO.none _
   | refine LeO.ite ?_ ?_
   | refine LeO.bind ?_ (fun _ => ?_)
theorem impl_StoreOk.mono : ∀ a0 k, LeO (impl_StoreOk.f k a0) (impl_StoreOk.f (k + 1) a0) := by
 intro a0 k
 have ih0 := impl_StoreOk.mono_l k
 unfold impl_StoreOk.f
 repeat' first
   | (with_reducible exact ih0 _ _ _ _)
   | (with_reducible exact impl_RecordOk.mono _ _ _ _ _ _ _ _ _)
   | (with_reducible exact LeO.refl _)
   | (with_reducible exact LeO.none _)
   | (with_reducible refine LeO.ite ?_ ?_)
   | (with_reducible refine LeO.bind ?_ (fun _ => ?_))
   | exact ih0 _ _ _ _
   | exact impl_RecordOk.mono _ _ _ _ _ _ _ _ _
   | exact LeO.none _
   | refine LeO.ite ?_ ?_
   | refine LeO.bind ?_ (fun _ => ?_)
def impl_StoreOk.T4 : Bool × List (List Nat × List Nat) := (true, [([], []), ([0], [0]), ([1], [1]), ([2, 1], [2]), ([3], [3]), ([4, 3], [3, 4]), ([5, 3, 3], [3, 5]), ([6], [6]), ([6], [6]), ([8, 6], [6, 8]), ([7, 9, 6], [6, 7, 9]), ([10, 6], [6, 10]), ([6], [6]), ([11, 12, 6, 6], [6, 11, 12]), ([13, 6], [6, 13]), ([6, 14, 3], [3, 6, 14]), ([3, 15], [3, 15])])
def impl_StoreOk.B4 : List Nat := [0, 1, 3, 7, 15, 31, 63, 127, 127, 383, 1023, 2047, 127, 8191, 16383, 32767, 65535]
theorem impl_StoreOk.tab4 : rtab .any (opsOf Try.f77 4) = impl_StoreOk.T4 := by kernel_rfl
theorem impl_StoreOk.bits4 : waitsOk impl_StoreOk.T4.2 impl_StoreOk.B4 = true := by kernel_rfl
set_option maxHeartbeats 8000000 in
set_option maxRecDepth 100000 in
theorem impl_StoreOk.calls (k : Nat) (A0 : Option Addr) (c0 : Nat) (l0 : List (S24)) (r : Bool) (w : World) (hr0 : Kd.C k24 w A0 l0.length l0) (hc0 : l0.length ≤ c0) (h : impl_StoreOk.f k l0 = some r) :
  Calls Try.prog 77 #[.slice A0 l0.length c0] w fun e w' => e = .returned (.bool r) ∧ Below w.heap.size w w' := by
 have hu24 := Try.underlying24; have HR0 := Aside0.mk hr0; have HC0 := Aside0.mk hc0; clear hr0 hc0; have HB := Aside0.mk (Below.refl w.heap.size w)
 have H : (impl_StoreOk.l0 k l0 l0 (l0.length : Int) 0) = some r := h
 clear h; have H' := Aside0.mk H; clear H
 go_enter Try.func77, Try.ntmps77
 go_wp2
 go_loopg [7] k (fun kq v7 w' => ∃ (x7_1 : Int), v7 = .int .i64 x7_1 ∧ Aside0 (impl_StoreOk.l0 kq l0 l0 (l0.length : Int) x7_1 = some r) ∧ Aside0 (kq ≤ k) ∧ Aside0 (Below w.heap.size w w'))
 case atStart => exact ⟨(0), (by first | rfl | (simp; done) | (simp [*]; done)), H', ⟨Nat.le_refl _⟩, ⟨bw_q HB⟩⟩
 case round =>
  clear H'; obtain ⟨x7_1, rfl, HA, HK1, HB⟩ := hrel
  cases gk with
  | zero => exact absurd HA.out (by simp [impl_StoreOk.l0])
  | succ k1 =>
   have H := HA.out; clear HA
   simp only [impl_StoreOk.l0] at H
   by_cases c2 : x7_1 < (l0.length : Int)
   ·rw [if_pos c2] at H
    have c2b0 : decide (x7_1 < (l0.length : Int)) = true := decide_eq_true c2
    clear c2
    by_cases c3 : 0 ≤ x7_1
    ·rw [if_pos c3] at H
     have c3b0 : decide (0 ≤ x7_1) = true := decide_eq_true c3
     clear c3
     by_cases c4 : x7_1 < (l0.length : Int)
     ·rw [if_pos c4] at H
      have c4b0 : decide (x7_1 < (l0.length : Int)) = true := decide_eq_true c4
      clear c4; replace H := Option.bind_eq_some_iff.mp H; obtain ⟨t289, A50, H⟩ := H
      replace H : (if t289 = true then (if x7_1 > 0 then (if 0 ≤ (wrap64 (x7_1 - 1)) then (if (wrap64 (x7_1 - 1)) < (l0.length : Int) then ((impl_Before.f ((rd_T24 l0 (wrap64 (x7_1 - 1))).f0) ((rd_T24 l0 (wrap64 (x7_1 - 1))).f1) ((rd_T24 l0 (wrap64 (x7_1 - 1))).f2) ((rd_T24 l0 (wrap64 (x7_1 - 1))).f3) ((rd_T24 l0 (wrap64 (x7_1 - 1))).f4) ((rd_T24 l0 (wrap64 (x7_1 - 1))).f5) ((rd_T24 l0 (wrap64 (x7_1 - 1))).f6) ((rd_T24 l0 (wrap64 (x7_1 - 1))).f7) ((rd_T24 l0 x7_1).f0) ((rd_T24 l0 x7_1).f1) ((rd_T24 l0 x7_1).f2) ((rd_T24 l0 x7_1).f3) ((rd_T24 l0 x7_1).f4) ((rd_T24 l0 x7_1).f5) ((rd_T24 l0 x7_1).f6) ((rd_T24 l0 x7_1).f7)).bind fun t291 => (if t291 = true then (impl_StoreOk.l0 k1 l0 l0 (l0.length : Int) (wrap64 (x7_1 + 1))) else (some false))) else (none)) else (none)) else (impl_StoreOk.l0 k1 l0 l0 (l0.length : Int) (wrap64 (x7_1 + 1)))) else (some false)) = some r := H
      have A5 := Aside0.mk A50; clear A50; have HZ1 := Aside0.mk H; clear H
      have p287 : 0 ≤ (x7_1 : Int) := of_decide_eq_true as_q
      have q287 : x7_1 < (l0.length : Int) := of_decide_eq_true as_q
      obtain ⟨ad287, A287_5, c287_5, e287, hx287_0, hx287_1, hx287_2, hx287_3, hx287_4, hx287_5, hx287_6, hx287_7, hl287_5, hi287_5⟩ := at_T24 HR0.out x7_1 p287 q287
      cases e287
      replace hx287_0 := (HB.out.cell (World.block_lt_of_cell? w _ hx287_0)).trans hx287_0
      replace hx287_1 := (HB.out.cell (World.block_lt_of_cell? w _ hx287_1)).trans hx287_1
      replace hx287_2 := (HB.out.cell (World.block_lt_of_cell? w _ hx287_2)).trans hx287_2
      replace hx287_3 := (HB.out.cell (World.block_lt_of_cell? w _ hx287_3)).trans hx287_3
      replace hx287_4 := (HB.out.cell (World.block_lt_of_cell? w _ hx287_4)).trans hx287_4
      replace hx287_5 := (HB.out.cell (World.block_lt_of_cell? w _ hx287_5)).trans hx287_5
      replace hx287_6 := (HB.out.cell (World.block_lt_of_cell? w _ hx287_6)).trans hx287_6
      replace hx287_7 := (HB.out.cell (World.block_lt_of_cell? w _ hx287_7)).trans hx287_7
      have HR287_5 := Aside0.mk hi287_5; have HC287_5 := Aside0.mk hl287_5; clear hi287_5 hl287_5; replace p287 := eq_true p287; replace q287 := eq_true q287
      try go_wp2_with (first | ((with_reducible refine gate_dst (N := 4) rfl ?_); refine box_q 4 #[.int .i64 0, .int .i64 0, .int .i64 0, .int .i64 0, .int .i64 0, .slice none 0 0, .int .i64 0, .bool false] 24 ?_; intro gb288 hg w13 hbox hb; have BK288 := Aside0.mk (hbox); have GW288 := Aside0.mk ((by rw [hg]; exact (below_size (bw_q HB)) : w.heap.size ≤ gb288)); have GE288 := Aside0.mk ((by rw [hg]; exact (below_size (bw_q HB)) : w.heap.size ≤ gb288)); replace HB := Aside0.mk (below_step (bw_q HB) hb); clear hb hbox hg; have hcz14_0 : w13.cell? ⟨gb288, 0, none⟩ = some (.int .i64 0) := (blk_cell BK288.out 0).trans rfl; have hcz14_1 : w13.cell? ⟨gb288, 1, none⟩ = some (.int .i64 0) := (blk_cell BK288.out 1).trans rfl; have hcz14_2 : w13.cell? ⟨gb288, 2, none⟩ = some (.int .i64 0) := (blk_cell BK288.out 2).trans rfl; have hcz14_3 : w13.cell? ⟨gb288, 3, none⟩ = some (.int .i64 0) := (blk_cell BK288.out 3).trans rfl; have hcz14_4 : w13.cell? ⟨gb288, 4, none⟩ = some (.int .i64 0) := (blk_cell BK288.out 4).trans rfl; have hcz14_5 : w13.cell? ⟨gb288, 5, none⟩ = some (.slice none 0 0) := (blk_cell BK288.out 5).trans rfl; have hcz14_6 : w13.cell? ⟨gb288, 6, none⟩ = some (.int .i64 0) := (blk_cell BK288.out 6).trans rfl; have hcz14_7 : w13.cell? ⟨gb288, 7, none⟩ = some (.bool false) := (blk_cell BK288.out 7).trans rfl; have hfz14_0 := blk_frozen BK288.out 0; have hfz14_1 := blk_frozen BK288.out 1; have hfz14_2 := blk_frozen BK288.out 2; have hfz14_3 := blk_frozen BK288.out 3; have hfz14_4 := blk_frozen BK288.out 4; have hfz14_5 := blk_frozen BK288.out 5; have hfz14_6 := blk_frozen BK288.out 6; have hfz14_7 := blk_frozen BK288.out 7))
      have n0_ : Aside0 (((((((((w13.setCell ⟨gb288, 0, none⟩ (.int .i64 ((rd_T24 l0 x7_1).f0))).setCell ⟨gb288, 1, none⟩ (.int .i64 ((rd_T24 l0 x7_1).f1))).setCell ⟨gb288, 2, none⟩ (.int .i64 ((rd_T24 l0 x7_1).f2))).setCell ⟨gb288, 3, none⟩ (.int .i64 ((rd_T24 l0 x7_1).f3))).setCell ⟨gb288, 4, none⟩ (.int .i64 ((rd_T24 l0 x7_1).f4))).setCell ⟨gb288, 5, none⟩ (.slice A287_5 ((rd_T24 l0 x7_1).f5).length c287_5)).setCell ⟨gb288, 6, none⟩ (.int .i64 ((rd_T24 l0 x7_1).f6))).setCell ⟨gb288, 7, none⟩ (.bool ((rd_T24 l0 x7_1).f7))).heap[gb288]? = some (.cells #[.int .i64 ((rd_T24 l0 x7_1).f0), .int .i64 ((rd_T24 l0 x7_1).f1), .int .i64 ((rd_T24 l0 x7_1).f2), .int .i64 ((rd_T24 l0 x7_1).f3), .int .i64 ((rd_T24 l0 x7_1).f4), .slice A287_5 ((rd_T24 l0 x7_1).f5).length c287_5, .int .i64 ((rd_T24 l0 x7_1).f6), .bool ((rd_T24 l0 x7_1).f7)] 24 (0, 0))) := ⟨by refine bz_ ?_; refine blk_put (cs := #[.int .i64 ((rd_T24 l0 x7_1).f0), .int .i64 ((rd_T24 l0 x7_1).f1), .int .i64 ((rd_T24 l0 x7_1).f2), .int .i64 ((rd_T24 l0 x7_1).f3), .int .i64 ((rd_T24 l0 x7_1).f4), .slice A287_5 ((rd_T24 l0 x7_1).f5).length c287_5, .int .i64 ((rd_T24 l0 x7_1).f6), .bool false]) ?_ 7 _ rfl; refine bz_ ?_; refine blk_put (cs := #[.int .i64 ((rd_T24 l0 x7_1).f0), .int .i64 ((rd_T24 l0 x7_1).f1), .int .i64 ((rd_T24 l0 x7_1).f2), .int .i64 ((rd_T24 l0 x7_1).f3), .int .i64 ((rd_T24 l0 x7_1).f4), .slice A287_5 ((rd_T24 l0 x7_1).f5).length c287_5, .int .i64 0, .bool false]) ?_ 6 _ rfl; refine bz_ ?_; refine blk_put (cs := #[.int .i64 ((rd_T24 l0 x7_1).f0), .int .i64 ((rd_T24 l0 x7_1).f1), .int .i64 ((rd_T24 l0 x7_1).f2), .int .i64 ((rd_T24 l0 x7_1).f3), .int .i64 ((rd_T24 l0 x7_1).f4), .slice none 0 0, .int .i64 0, .bool false]) ?_ 5 _ rfl; refine bz_ ?_; refine blk_put (cs := #[.int .i64 ((rd_T24 l0 x7_1).f0), .int .i64 ((rd_T24 l0 x7_1).f1), .int .i64 ((rd_T24 l0 x7_1).f2), .int .i64 ((rd_T24 l0 x7_1).f3), .int .i64 0, .slice none 0 0, .int .i64 0, .bool false]) ?_ 4 _ rfl; refine bz_ ?_; refine blk_put (cs := #[.int .i64 ((rd_T24 l0 x7_1).f0), .int .i64 ((rd_T24 l0 x7_1).f1), .int .i64 ((rd_T24 l0 x7_1).f2), .int .i64 0, .int .i64 0, .slice none 0 0, .int .i64 0, .bool false]) ?_ 3 _ rfl; refine bz_ ?_; refine blk_put (cs := #[.int .i64 ((rd_T24 l0 x7_1).f0), .int .i64 ((rd_T24 l0 x7_1).f1), .int .i64 0, .int .i64 0, .int .i64 0, .slice none 0 0, .int .i64 0, .bool false]) ?_ 2 _ rfl; refine bz_ ?_; refine blk_put (cs := #[.int .i64 ((rd_T24 l0 x7_1).f0), .int .i64 0, .int .i64 0, .int .i64 0, .int .i64 0, .slice none 0 0, .int .i64 0, .bool false]) ?_ 1 _ rfl; refine bz_ ?_; refine blk_put (cs := #[.int .i64 0, .int .i64 0, .int .i64 0, .int .i64 0, .int .i64 0, .slice none 0 0, .int .i64 0, .bool false]) ?_ 0 _ rfl; refine bz_ ?_; exact BK288.out⟩
      have n1_ : Aside0 (Below w.heap.size w ((((((((w13.setCell ⟨gb288, 0, none⟩ (.int .i64 ((rd_T24 l0 x7_1).f0))).setCell ⟨gb288, 1, none⟩ (.int .i64 ((rd_T24 l0 x7_1).f1))).setCell ⟨gb288, 2, none⟩ (.int .i64 ((rd_T24 l0 x7_1).f2))).setCell ⟨gb288, 3, none⟩ (.int .i64 ((rd_T24 l0 x7_1).f3))).setCell ⟨gb288, 4, none⟩ (.int .i64 ((rd_T24 l0 x7_1).f4))).setCell ⟨gb288, 5, none⟩ (.slice A287_5 ((rd_T24 l0 x7_1).f5).length c287_5)).setCell ⟨gb288, 6, none⟩ (.int .i64 ((rd_T24 l0 x7_1).f6))).setCell ⟨gb288, 7, none⟩ (.bool ((rd_T24 l0 x7_1).f7)))) := ⟨bw_q HB⟩
      (try clear BK288); (try clear HB)
      generalize ((((((((w13.setCell ⟨gb288, 0, none⟩ (.int .i64 ((rd_T24 l0 x7_1).f0))).setCell ⟨gb288, 1, none⟩ (.int .i64 ((rd_T24 l0 x7_1).f1))).setCell ⟨gb288, 2, none⟩ (.int .i64 ((rd_T24 l0 x7_1).f2))).setCell ⟨gb288, 3, none⟩ (.int .i64 ((rd_T24 l0 x7_1).f3))).setCell ⟨gb288, 4, none⟩ (.int .i64 ((rd_T24 l0 x7_1).f4))).setCell ⟨gb288, 5, none⟩ (.slice A287_5 ((rd_T24 l0 x7_1).f5).length c287_5)).setCell ⟨gb288, 6, none⟩ (.int .i64 ((rd_T24 l0 x7_1).f6))).setCell ⟨gb288, 7, none⟩ (.bool ((rd_T24 l0 x7_1).f7))) = w15 at n0_ n1_ ⊢
      have BK288 := n0_; have HB := n1_; clear n0_ n1_; replace BK288 := Aside0.mk (blk_drew BK288.out); replace HB := Aside0.mk (below_drew1 HB.out)
      refine start_ (n := 17) (S := fun w' => w'.cell? ⟨gb288, 0, none⟩ = some (.int .i64 ((rd_T24 l0 x7_1).f0)) ∧ w'.cell? ⟨gb288, 1, none⟩ = some (.int .i64 ((rd_T24 l0 x7_1).f1)) ∧ w'.cell? ⟨gb288, 2, none⟩ = some (.int .i64 ((rd_T24 l0 x7_1).f2)) ∧ w'.cell? ⟨gb288, 3, none⟩ = some (.int .i64 ((rd_T24 l0 x7_1).f3)) ∧ w'.cell? ⟨gb288, 4, none⟩ = some (.int .i64 ((rd_T24 l0 x7_1).f4)) ∧ w'.cell? ⟨gb288, 5, none⟩ = some (.slice A287_5 ((rd_T24 l0 x7_1).f5).length c287_5) ∧ w'.cell? ⟨gb288, 6, none⟩ = some (.int .i64 ((rd_T24 l0 x7_1).f6)) ∧ w'.cell? ⟨gb288, 7, none⟩ = some (.bool ((rd_T24 l0 x7_1).f7))) (ds := []) (bL 17 0) (by kernel_rfl) rfl rfl ⟨(blk_cell BK288.out 0).trans rfl, (blk_cell BK288.out 1).trans rfl, (blk_cell BK288.out 2).trans rfl, (blk_cell BK288.out 3).trans rfl, (blk_cell BK288.out 4).trans rfl, (blk_cell BK288.out 5).trans rfl, (blk_cell BK288.out 6).trans rfl, (blk_cell BK288.out 7).trans rfl⟩ (fun hHeld => ?_); refine with_tabW impl_StoreOk.tab4 impl_StoreOk.bits4 (fun HT_ HW_ => ?_)
      generalize w15.drew = w16 at BK288 HB hHeld ⊢
      refine take_ (i := 0) (N := some 12) (v := ?_) (a' := ?_) (bL 17 1) rfl rfl (take_ofW HT_.out HW_.out (by kernel_rfl)) (fun _ _ _ h => h) (Or.inl ⟨by rfl, ?_⟩) hHeld ?_ ?_; rotate_left; (rintro w' ⟨s0, s1, s2, s3, s4, s5, s6, s7⟩; go_simp; with_reducible rfl); rotate_left; (exact put_q)
      refine one_ (i := 1) (N := some 13) (bL 17 3) rfl rfl (one_of HT_.out (by kernel_rfl)) (by decide) (fun K hK => ?_)
      refine goes_ Try.func27 (by kernel_rfl) rfl #[.agg #[.int .i64 ((rd_T24 l0 x7_1).f0), .int .i64 ((rd_T24 l0 x7_1).f1), .int .i64 ((rd_T24 l0 x7_1).f2), .int .i64 ((rd_T24 l0 x7_1).f3), .int .i64 ((rd_T24 l0 x7_1).f4), .slice A287_5 ((rd_T24 l0 x7_1).f5).length c287_5, .int .i64 ((rd_T24 l0 x7_1).f6), .bool ((rd_T24 l0 x7_1).f7)]] (by rfl) rfl rfl mp_q ?_
      with_reducible refine (impl_RecordOk.calls k1 ((rd_T24 l0 x7_1).f0) ((rd_T24 l0 x7_1).f1) ((rd_T24 l0 x7_1).f2) ((rd_T24 l0 x7_1).f3) ((rd_T24 l0 x7_1).f4) _ _ ((rd_T24 l0 x7_1).f5) ((rd_T24 l0 x7_1).f6) ((rd_T24 l0 x7_1).f7) t289 _ ?side1 ?side2 A5.out).mono ?_
      (case side1 => exact cs_q (Kd.C_below HR287_5.out HB.out))
      (case side2 => exact HC287_5.out)
      rintro e w17 ⟨rfl, hb⟩
      refine ⟨_, rfl, ?_⟩
      replace BK288 := Aside0.mk (blk_below (g := gb288) (bk_q BK288) hb); replace HB := Aside0.mk (below_step (bw_q HB) hb); (try clear hb); (try clear hb2); (try clear hk); (try clear hi)
      refine hK.out _ _ ⟨(blk_cell BK288.out 0).trans rfl, (blk_cell BK288.out 1).trans rfl, (blk_cell BK288.out 2).trans rfl, (blk_cell BK288.out 3).trans rfl, (blk_cell BK288.out 4).trans rfl, (blk_cell BK288.out 5).trans rfl, (blk_cell BK288.out 6).trans rfl, (blk_cell BK288.out 7).trans rfl⟩ (fun hHeld => ?_)
      clear hK K
      refine norm_ (a' := ?_) ?_ ?_; rotate_left; (show Act.put _ (some 13) _ = _; simp only [Act.put, List.setIfInBounds_toArray, List.set_cons_zero, List.set_cons_succ, i64_w, i32_w]; rfl)
      refine pq_ 2 14 (bL 17 7) HT_.out rfl rfl ?_
      refine pq_ 3 15 (bL 17 15) HT_.out rfl rfl ?_
      have H := HZ1.out; clear HZ1
      by_cases c6 : t289 = true
      ·subst c6
       replace H : (if x7_1 > 0 then (if 0 ≤ (wrap64 (x7_1 - 1)) then (if (wrap64 (x7_1 - 1)) < (l0.length : Int) then ((impl_Before.f ((rd_T24 l0 (wrap64 (x7_1 - 1))).f0) ((rd_T24 l0 (wrap64 (x7_1 - 1))).f1) ((rd_T24 l0 (wrap64 (x7_1 - 1))).f2) ((rd_T24 l0 (wrap64 (x7_1 - 1))).f3) ((rd_T24 l0 (wrap64 (x7_1 - 1))).f4) ((rd_T24 l0 (wrap64 (x7_1 - 1))).f5) ((rd_T24 l0 (wrap64 (x7_1 - 1))).f6) ((rd_T24 l0 (wrap64 (x7_1 - 1))).f7) ((rd_T24 l0 x7_1).f0) ((rd_T24 l0 x7_1).f1) ((rd_T24 l0 x7_1).f2) ((rd_T24 l0 x7_1).f3) ((rd_T24 l0 x7_1).f4) ((rd_T24 l0 x7_1).f5) ((rd_T24 l0 x7_1).f6) ((rd_T24 l0 x7_1).f7)).bind fun t291 => (if t291 = true then (impl_StoreOk.l0 k1 l0 l0 (l0.length : Int) (wrap64 (x7_1 + 1))) else (some false))) else (none)) else (none)) else (impl_StoreOk.l0 k1 l0 l0 (l0.length : Int) (wrap64 (x7_1 + 1)))) = some r := by rw [if_pos rfl] at H; exact H
       have HZ2 := Aside0.mk H; clear H
       refine pq_ 4 16 (bL 17 31) HT_.out rfl rfl ?_
       refine pq_ 5 17 (bL 17 63) HT_.out rfl rfl ?_
       refine pq_ 6 18 (bL 17 127) HT_.out rfl rfl ?_
       have H := HZ2.out; clear HZ2
       by_cases c7 : x7_1 > 0
       ·rw [if_pos c7] at H
        have c7b0 : decide (0 < x7_1) = true := decide_eq_true c7
        (first | rw [c7b0] | (simp only [i64_w, i32_w]; first | rw [c7b0]) | skip)
        clear c7; obtain ⟨ji8, hji8⟩ : ∃ j_ : Int, (wrap64 (x7_1 - 1)) = j_ := ⟨_, rfl⟩
        replace H : (if 0 ≤ (ji8) then (if (ji8) < (l0.length : Int) then ((impl_Before.f ((rd_T24 l0 (ji8)).f0) ((rd_T24 l0 (ji8)).f1) ((rd_T24 l0 (ji8)).f2) ((rd_T24 l0 (ji8)).f3) ((rd_T24 l0 (ji8)).f4) ((rd_T24 l0 (ji8)).f5) ((rd_T24 l0 (ji8)).f6) ((rd_T24 l0 (ji8)).f7) ((rd_T24 l0 x7_1).f0) ((rd_T24 l0 x7_1).f1) ((rd_T24 l0 x7_1).f2) ((rd_T24 l0 x7_1).f3) ((rd_T24 l0 x7_1).f4) ((rd_T24 l0 x7_1).f5) ((rd_T24 l0 x7_1).f6) ((rd_T24 l0 x7_1).f7)).bind fun t291 => (if t291 = true then (impl_StoreOk.l0 k1 l0 l0 (l0.length : Int) (wrap64 (x7_1 + 1))) else (some false))) else (none)) else (none)) = some r := by first | (rw [hji8] at H; exact H) | (simp only [hji8] at H ⊢; exact H)
        (try rw [hji8] at A5)
        have hji8w : (IntKind.i64.wrap (x7_1 - 1)) = ji8 := (i64_w _).trans hji8
        by_cases c9 : 0 ≤ (ji8)
        ·rw [if_pos c9] at H
         have c9b0 : decide (0 ≤ (ji8)) = true := decide_eq_true c9
         clear c9
         by_cases c10 : (ji8) < (l0.length : Int)
         ·rw [if_pos c10] at H
          have c10b0 : decide ((ji8) < (l0.length : Int)) = true := decide_eq_true c10
          clear c10; replace H := Option.bind_eq_some_iff.mp H; obtain ⟨t291, A110, H⟩ := H
          replace H : (if t291 = true then (impl_StoreOk.l0 k1 l0 l0 (l0.length : Int) (wrap64 (x7_1 + 1))) else (some false)) = some r := H
          have A11 := Aside0.mk A110; clear A110; have HZ3 := Aside0.mk H; clear H
          have p290 : 0 ≤ ((ji8) : Int) := of_decide_eq_true as_q
          have q290 : (ji8) < (l0.length : Int) := of_decide_eq_true as_q
          obtain ⟨ad290, A290_5, c290_5, e290, hx290_0, hx290_1, hx290_2, hx290_3, hx290_4, hx290_5, hx290_6, hx290_7, hl290_5, hi290_5⟩ := at_T24 HR0.out (ji8) p290 q290; have hw290_7 := hx290_7; have hw290_6 := hx290_6; have hw290_5 := hx290_5; have hw290_4 := hx290_4; have hw290_3 := hx290_3; have hw290_2 := hx290_2; have hw290_1 := hx290_1; have hw290_0 := hx290_0
          obtain rfl : ad287 = ad290 := (by injection e290)
          replace hx290_0 := (HB.out.cell (World.block_lt_of_cell? w _ hx290_0)).trans hx290_0
          replace hx290_1 := (HB.out.cell (World.block_lt_of_cell? w _ hx290_1)).trans hx290_1
          replace hx290_2 := (HB.out.cell (World.block_lt_of_cell? w _ hx290_2)).trans hx290_2
          replace hx290_3 := (HB.out.cell (World.block_lt_of_cell? w _ hx290_3)).trans hx290_3
          replace hx290_4 := (HB.out.cell (World.block_lt_of_cell? w _ hx290_4)).trans hx290_4
          replace hx290_5 := (HB.out.cell (World.block_lt_of_cell? w _ hx290_5)).trans hx290_5
          replace hx290_6 := (HB.out.cell (World.block_lt_of_cell? w _ hx290_6)).trans hx290_6
          replace hx290_7 := (HB.out.cell (World.block_lt_of_cell? w _ hx290_7)).trans hx290_7
          have HR290_5 := Aside0.mk hi290_5; have HC290_5 := Aside0.mk hl290_5; clear hi290_5 hl290_5; replace p290 := eq_true p290; replace q290 := eq_true q290
          refine last_weaken (fun w' => w'.cell? ⟨gb288, 0, none⟩ = some (.int .i64 ((rd_T24 l0 x7_1).f0)) ∧ w'.cell? ⟨gb288, 1, none⟩ = some (.int .i64 ((rd_T24 l0 x7_1).f1)) ∧ w'.cell? ⟨gb288, 2, none⟩ = some (.int .i64 ((rd_T24 l0 x7_1).f2)) ∧ w'.cell? ⟨gb288, 3, none⟩ = some (.int .i64 ((rd_T24 l0 x7_1).f3)) ∧ w'.cell? ⟨gb288, 4, none⟩ = some (.int .i64 ((rd_T24 l0 x7_1).f4)) ∧ w'.cell? ⟨gb288, 5, none⟩ = some (.slice A287_5 ((rd_T24 l0 x7_1).f5).length c287_5) ∧ w'.cell? ⟨gb288, 6, none⟩ = some (.int .i64 ((rd_T24 l0 x7_1).f6)) ∧ w'.cell? ⟨gb288, 7, none⟩ = some (.bool ((rd_T24 l0 x7_1).f7)) ∧ w'.cell? (ad287.add (((ji8)).toNat * 8)) = some (.int .i64 ((rd_T24 l0 (ji8)).f0)) ∧ w'.cell? ⟨(ad287.add (((ji8)).toNat * 8)).block, (ad287.add (((ji8)).toNat * 8)).off + 1, none⟩ = some (.int .i64 ((rd_T24 l0 (ji8)).f1)) ∧ w'.cell? ⟨(ad287.add (((ji8)).toNat * 8)).block, (ad287.add (((ji8)).toNat * 8)).off + 2, none⟩ = some (.int .i64 ((rd_T24 l0 (ji8)).f2)) ∧ w'.cell? ⟨(ad287.add (((ji8)).toNat * 8)).block, (ad287.add (((ji8)).toNat * 8)).off + 3, none⟩ = some (.int .i64 ((rd_T24 l0 (ji8)).f3)) ∧ w'.cell? ⟨(ad287.add (((ji8)).toNat * 8)).block, (ad287.add (((ji8)).toNat * 8)).off + 4, none⟩ = some (.int .i64 ((rd_T24 l0 (ji8)).f4)) ∧ w'.cell? ⟨(ad287.add (((ji8)).toNat * 8)).block, (ad287.add (((ji8)).toNat * 8)).off + 5, none⟩ = some (.slice A290_5 ((rd_T24 l0 (ji8)).f5).length c290_5) ∧ w'.cell? ⟨(ad287.add (((ji8)).toNat * 8)).block, (ad287.add (((ji8)).toNat * 8)).off + 6, none⟩ = some (.int .i64 ((rd_T24 l0 (ji8)).f6)) ∧ w'.cell? ⟨(ad287.add (((ji8)).toNat * 8)).block, (ad287.add (((ji8)).toNat * 8)).off + 7, none⟩ = some (.bool ((rd_T24 l0 (ji8)).f7))) (fun w' h_ => ⟨h_.1, h_.2.1, h_.2.2.1, h_.2.2.2.1, h_.2.2.2.2.1, h_.2.2.2.2.2.1, h_.2.2.2.2.2.2.1, h_.2.2.2.2.2.2.2.1⟩) ⟨hHeld.1, hHeld.2.1, hHeld.2.2.1, hHeld.2.2.2.1, hHeld.2.2.2.2.1, hHeld.2.2.2.2.2.1, hHeld.2.2.2.2.2.2.1, hHeld.2.2.2.2.2.2.2, (by first | assumption | exact ((HB.out.cell (World.block_lt_of_cell? w _ hw290_0)).trans hw290_0)), (by first | assumption | exact ((HB.out.cell (World.block_lt_of_cell? w _ hw290_1)).trans hw290_1)), (by first | assumption | exact ((HB.out.cell (World.block_lt_of_cell? w _ hw290_2)).trans hw290_2)), (by first | assumption | exact ((HB.out.cell (World.block_lt_of_cell? w _ hw290_3)).trans hw290_3)), (by first | assumption | exact ((HB.out.cell (World.block_lt_of_cell? w _ hw290_4)).trans hw290_4)), (by first | assumption | exact ((HB.out.cell (World.block_lt_of_cell? w _ hw290_5)).trans hw290_5)), (by first | assumption | exact ((HB.out.cell (World.block_lt_of_cell? w _ hw290_6)).trans hw290_6)), (by first | assumption | exact ((HB.out.cell (World.block_lt_of_cell? w _ hw290_7)).trans hw290_7))⟩ (fun hHeld => ?_)
          refine pq_ 7 19 (bL 17 255) HT_.out rfl rfl ?_
          refine pq_ 8 20 (bL 17 511) HT_.out rfl rfl ?_
          refine pq_ 9 21 (bL 17 1023) HT_.out rfl rfl ?_
          refine pq_ 10 22 (bL 17 2047) HT_.out rfl rfl ?_
          refine take_ (i := 11) (N := some 23) (v := ?_) (a' := ?_) (bL 17 4095) rfl rfl (take_ofW HT_.out HW_.out (by kernel_rfl)) (fun _ _ _ h => h) (Or.inl ⟨by rfl, ?_⟩) hHeld ?_ ?_; rotate_left; (rintro w' ⟨s0, s1, s2, s3, s4, s5, s6, s7, s8, s9, s10, s11, s12, s13, s14, s15⟩; go_simp; with_reducible rfl); rotate_left; (exact put_q)
          refine take_ (i := 12) (N := some 24) (v := ?_) (a' := ?_) (bL 17 8191) rfl rfl (take_ofW HT_.out HW_.out (by kernel_rfl)) (fun _ _ _ h => h) (Or.inl ⟨by rfl, ?_⟩) hHeld ?_ ?_; rotate_left; (rintro w' ⟨s0, s1, s2, s3, s4, s5, s6, s7, s8, s9, s10, s11, s12, s13, s14, s15⟩; go_simp; with_reducible rfl); rotate_left; (exact put_q)
          refine one_ (i := 13) (N := some 25) (bL 17 16383) rfl rfl (one_of HT_.out (by kernel_rfl)) (by decide) (fun K hK => ?_)
          refine goes_ Try.func94 (by kernel_rfl) rfl #[.agg #[.int .i64 ((rd_T24 l0 (ji8)).f0), .int .i64 ((rd_T24 l0 (ji8)).f1), .int .i64 ((rd_T24 l0 (ji8)).f2), .int .i64 ((rd_T24 l0 (ji8)).f3), .int .i64 ((rd_T24 l0 (ji8)).f4), .slice A290_5 ((rd_T24 l0 (ji8)).f5).length c290_5, .int .i64 ((rd_T24 l0 (ji8)).f6), .bool ((rd_T24 l0 (ji8)).f7)], .agg #[.int .i64 ((rd_T24 l0 x7_1).f0), .int .i64 ((rd_T24 l0 x7_1).f1), .int .i64 ((rd_T24 l0 x7_1).f2), .int .i64 ((rd_T24 l0 x7_1).f3), .int .i64 ((rd_T24 l0 x7_1).f4), .slice A287_5 ((rd_T24 l0 x7_1).f5).length c287_5, .int .i64 ((rd_T24 l0 x7_1).f6), .bool ((rd_T24 l0 x7_1).f7)]] (by rfl) rfl rfl (by (try simp only [List.map_toArray, List.map_cons, List.map_nil]); first | done | (simp only [hji8]; rfl) | rfl | (simp only [List.length_drop, List.length_take]; rfl)) ?_
          with_reducible refine (impl_Before.calls ((rd_T24 l0 (ji8)).f0) ((rd_T24 l0 (ji8)).f1) ((rd_T24 l0 (ji8)).f2) ((rd_T24 l0 (ji8)).f3) ((rd_T24 l0 (ji8)).f4) _ _ ((rd_T24 l0 (ji8)).f5) ((rd_T24 l0 (ji8)).f6) ((rd_T24 l0 (ji8)).f7) ((rd_T24 l0 x7_1).f0) ((rd_T24 l0 x7_1).f1) ((rd_T24 l0 x7_1).f2) ((rd_T24 l0 x7_1).f3) ((rd_T24 l0 x7_1).f4) _ _ ((rd_T24 l0 x7_1).f5) ((rd_T24 l0 x7_1).f6) ((rd_T24 l0 x7_1).f7) t291 _ ?side1 ?side2 ?side3 ?side4 A11.out).mono ?_
          (case side1 => exact cs_q (Kd.C_below HR290_5.out HB.out))
          (case side2 => exact HC290_5.out)
          (case side3 => exact cs_q (Kd.C_below HR287_5.out HB.out))
          (case side4 => exact HC287_5.out)
          rintro e w18 ⟨rfl, hb⟩
          refine ⟨_, rfl, ?_⟩
          replace BK288 := Aside0.mk (blk_below (g := gb288) (bk_q BK288) hb); replace HB := Aside0.mk (below_step (bw_q HB) hb); (try clear hb); (try clear hb2); (try clear hk); (try clear hi)
          refine hK.out _ _ ⟨(blk_cell BK288.out 0).trans rfl, (blk_cell BK288.out 1).trans rfl, (blk_cell BK288.out 2).trans rfl, (blk_cell BK288.out 3).trans rfl, (blk_cell BK288.out 4).trans rfl, (blk_cell BK288.out 5).trans rfl, (blk_cell BK288.out 6).trans rfl, (blk_cell BK288.out 7).trans rfl, ((HB.out.cell (World.block_lt_of_cell? w _ hw290_0)).trans hw290_0), ((HB.out.cell (World.block_lt_of_cell? w _ hw290_1)).trans hw290_1), ((HB.out.cell (World.block_lt_of_cell? w _ hw290_2)).trans hw290_2), ((HB.out.cell (World.block_lt_of_cell? w _ hw290_3)).trans hw290_3), ((HB.out.cell (World.block_lt_of_cell? w _ hw290_4)).trans hw290_4), ((HB.out.cell (World.block_lt_of_cell? w _ hw290_5)).trans hw290_5), ((HB.out.cell (World.block_lt_of_cell? w _ hw290_6)).trans hw290_6), ((HB.out.cell (World.block_lt_of_cell? w _ hw290_7)).trans hw290_7)⟩ (fun hHeld => ?_)
          clear hK K
          refine norm_ (a' := ?_) ?_ ?_; rotate_left; (show Act.put _ (some 25) _ = _; simp only [Act.put, List.setIfInBounds_toArray, List.set_cons_zero, List.set_cons_succ, i64_w, i32_w]; rfl)
          refine pq_ 14 26 (bL 17 32767) HT_.out rfl rfl ?_
          refine pq_ 15 27 (bL 17 65535) HT_.out rfl rfl ?_
          refine pq_ 16 28 (bL 17 131071) HT_.out rfl rfl ?_
          have H := HZ3.out; clear HZ3
          by_cases c12 : t291 = true
          ·subst c12
           replace H : (impl_StoreOk.l0 k1 l0 l0 (l0.length : Int) (wrap64 (x7_1 + 1))) = some r := by rw [if_pos rfl] at H; exact H
           have H' := Aside0.mk H; clear H
           refine done_ (done_of HT_.out (by kernel_rfl)) ?_
           try go_wp2
           go_roundg k1
           case measure => have := HK1.out; omega
           case rel => exact ⟨(wrap64 (x7_1 + 1)), (by first | rfl | (simp; done) | (simp [*]; done)), H', ⟨by have := HK1.out; omega⟩, ⟨bw_q HB⟩⟩
          ·replace c12 := Bool.eq_false_iff.mpr c12; subst c12
           replace H : (some false) = some r := by rw [if_neg (show ¬ (false = true) by decide)] at H; exact H
           obtain rfl := Option.some.inj H
           refine done_ (done_of HT_.out (by kernel_rfl)) ?_
           try go_wp2
           go_ret
           exact ⟨by first | rfl | (simp [errW_none, errW_some] <;> rfl) | (simp only [← hji8]; first | rfl | (simp [errW_none, errW_some] <;> rfl)) | (simp [*, errW_none, errW_some] <;> rfl), bw_q HB⟩
         ·rw [if_neg c10] at H
          exact absurd H (by simp)
        ·rw [if_neg c9] at H
         exact absurd H (by simp)
       ·rw [if_neg c7] at H
        have c7b0 : decide (0 < x7_1) = false := decide_eq_false c7
        (first | rw [c7b0] | (simp only [i64_w, i32_w]; first | rw [c7b0]) | skip)
        clear c7; have H' := Aside0.mk H; clear H
        refine pu_ 7 19 (bL 17 255) HT_.out rfl rfl ?_
        refine pu_ 8 20 (bL 17 511) HT_.out rfl rfl ?_
        refine pu_ 9 21 (bL 17 1023) HT_.out rfl rfl ?_
        refine pu_ 10 22 (bL 17 2047) HT_.out rfl rfl ?_
        refine pu_ 11 23 (bL 17 4095) HT_.out rfl rfl ?_
        refine pu_ 12 24 (bL 17 8191) HT_.out rfl rfl ?_
        refine pu_ 13 25 (bL 17 16383) HT_.out rfl rfl ?_
        refine pu_ 14 26 (bL 17 32767) HT_.out rfl rfl ?_
        refine pq_ 15 27 (bL 17 65535) HT_.out rfl rfl ?_
        refine pq_ 16 28 (bL 17 131071) HT_.out rfl rfl ?_
        refine done_ (done_of HT_.out (by kernel_rfl)) ?_
        try go_wp2
        go_roundg k1
        case measure => have := HK1.out; omega
        case rel => exact ⟨(wrap64 (x7_1 + 1)), (by first | rfl | (simp; done) | (simp [*]; done)), H', ⟨by have := HK1.out; omega⟩, ⟨bw_q HB⟩⟩
      ·replace c6 := Bool.eq_false_iff.mpr c6; subst c6
       replace H : (some false) = some r := by rw [if_neg (show ¬ (false = true) by decide)] at H; exact H
       obtain rfl := Option.some.inj H
       refine pu_ 4 16 (bL 17 31) HT_.out rfl rfl ?_
       refine pu_ 5 17 (bL 17 63) HT_.out rfl rfl ?_
       refine pu_ 6 18 (bL 17 127) HT_.out rfl rfl ?_
       refine pu_ 7 19 (bL 17 255) HT_.out rfl rfl ?_
       refine pu_ 8 20 (bL 17 511) HT_.out rfl rfl ?_
       refine pu_ 9 21 (bL 17 1023) HT_.out rfl rfl ?_
       refine pu_ 10 22 (bL 17 2047) HT_.out rfl rfl ?_
       refine pu_ 11 23 (bL 17 4095) HT_.out rfl rfl ?_
       refine pu_ 12 24 (bL 17 8191) HT_.out rfl rfl ?_
       refine pu_ 13 25 (bL 17 16383) HT_.out rfl rfl ?_
       refine pu_ 14 26 (bL 17 32767) HT_.out rfl rfl ?_
       refine pu_ 15 27 (bL 17 65535) HT_.out rfl rfl ?_
       refine pq_ 16 28 (bL 17 131071) HT_.out rfl rfl ?_
       refine done_ (done_of HT_.out (by kernel_rfl)) ?_
       try go_wp2
       go_ret
       exact ⟨er_q, bw_q HB⟩
     ·rw [if_neg c4] at H
      exact absurd H (by simp)
    ·rw [if_neg c3] at H
     exact absurd H (by simp)
   ·rw [if_neg c2] at H
    have c2b0 : decide (x7_1 < (l0.length : Int)) = false := decide_eq_false c2
    clear c2; obtain rfl := Option.some.inj H
    go_wp2
    go_ret
    exact ⟨er_q, bw_q HB⟩

end Go.Proofs.Ytnecbkognpponaa.Q

/- A Go function as a Lean function, and its contract: for every input the Go code comes to what the Lean function tells. -/

namespace Go.Proofs.Ytnecbkognpponaa.Q
open Go.RowKit Go.Proofs.YtnecbkognpponaaW.PrintWords Go.Proofs.YtnecbkognpponaaW.PrintLast Go.Proofs.YtnecbkognpponaaW.PrintMore
attribute [local go_sem] max2_int min2_int max_two min_two max_three min_three max_four min_four   -- for this text's walks alone
set_option linter.unusedVariables false
set_option linter.unusedSimpArgs false

/-! ### impl_header: function 95 -/
def impl_header.f (a0_0 : Int) (a0_1 : Int) (a0_2 : Int) (a0_3 : Int) (a0_4 : Int) (l0_5 : List (S63)) (a0_6 : Int) (a0_7 : Bool) : Option (Int × Int × Int × Int × Int × (List (S63)) × Int × Bool) := if a0_1 = 3 then (some (a0_0, a0_1, a0_2, a0_3, a0_4, ([] : List (S63)), 1, false)) else (some (a0_0, a0_1, a0_2, a0_3, a0_4, ([] : List (S63)), 0, false))
set_option maxHeartbeats 8000000 in
set_option maxRecDepth 100000 in
theorem impl_header.calls (a0_0 : Int) (a0_1 : Int) (a0_2 : Int) (a0_3 : Int) (a0_4 : Int) (A0_5 : Option Addr) (c0_5 : Nat) (l0_5 : List (S63)) (a0_6 : Int) (a0_7 : Bool) (r1 : Int) (r2 : Int) (r3 : Int) (r4 : Int) (r5 : Int) (r6 : List (S63)) (r7 : Int) (r8 : Bool) (w : World) (hr0_5 : Kd.C k63 w A0_5 l0_5.length l0_5) (hc0_5 : l0_5.length ≤ c0_5) (h : impl_header.f a0_0 a0_1 a0_2 a0_3 a0_4 l0_5 a0_6 a0_7 = some (r1, r2, r3, r4, r5, r6, r7, r8)) :
  Calls Try.prog 95 #[.agg #[.int .i64 a0_0, .int .i64 a0_1, .int .i64 a0_2, .int .i64 a0_3, .int .i64 a0_4, .slice A0_5 l0_5.length c0_5, .int .i64 a0_6, .bool a0_7]] w fun e w' => ∃ v5_ : Value, e = .returned (.agg #[.int .i64 r1, .int .i64 r2, .int .i64 r3, .int .i64 r4, .int .i64 r5, v5_, .int .i64 r7, .bool r8]) ∧ Kd.R k63 63 w' w.heap.size (fun _ => True) v5_ r6 ∧ Below w.heap.size w w' := by
 have hu24 := Try.underlying24; have HR0_5 := Aside0.mk hr0_5; have HC0_5 := Aside0.mk hc0_5; clear hr0_5 hc0_5; have HB := Aside0.mk (Below.refl w.heap.size w)
 have H : (if a0_1 = 3 then (some (a0_0, a0_1, a0_2, a0_3, a0_4, ([] : List (S63)), 1, false)) else (some (a0_0, a0_1, a0_2, a0_3, a0_4, ([] : List (S63)), 0, false))) = some (r1, r2, r3, r4, r5, r6, r7, r8) := h
 clear h; have HC2 := Aside0.mk H; clear H
 go_enter Try.func95, Try.ntmps95
 go_upto_if 17 with (first | ((with_reducible refine gate_dst (N := 1) rfl ?_); refine box_q 1 #[.int .i64 a0_0, .int .i64 a0_1, .int .i64 a0_2, .int .i64 a0_3, .int .i64 a0_4, .slice A0_5 l0_5.length c0_5, .int .i64 a0_6, .bool a0_7] 24 ?_; intro gb292 hg w3 hbox hb; have BK292 := Aside0.mk (hbox); have GW292 := Aside0.mk ((by rw [hg]; exact (below_size (bw_q HB)) : w.heap.size ≤ gb292)); have GE292 := Aside0.mk ((by rw [hg]; exact (below_size (bw_q HB)) : w.heap.size ≤ gb292)); replace HB := Aside0.mk (below_step (bw_q HB) hb); clear hb hbox hg) | ((with_reducible refine gate_dst (N := 2) rfl ?_); refine box_q 2 #[.int .i64 0, .int .i64 0, .int .i64 0, .int .i64 0, .int .i64 0, .slice none 0 0, .int .i64 0, .bool false] 24 ?_; intro gb293 hg w4 hbox hb; have BK293 := Aside0.mk (hbox); have GW293 := Aside0.mk ((by rw [hg]; exact (below_size (bw_q HB)) : w.heap.size ≤ gb293)); have GE293 := Aside0.mk ((by rw [hg]; exact (below_size (bw_q HB)) : w.heap.size ≤ gb293)); replace HB := Aside0.mk (below_step (bw_q HB) hb); have NB292_293 := Aside0.mk ((by rw [hg]; exact Nat.ne_of_lt (blk_lt (g := gb292) (o := .cells #[.int .i64 a0_0, .int .i64 a0_1, .int .i64 a0_2, .int .i64 a0_3, .int .i64 a0_4, .slice A0_5 l0_5.length c0_5, .int .i64 a0_6, .bool a0_7] 24 (0, 0)) (bk_q BK292)) : gb292 ≠ gb293)); have NB293_292 := Aside0.mk ((by rw [hg]; exact Nat.ne_of_gt (blk_lt (g := gb292) (o := .cells #[.int .i64 a0_0, .int .i64 a0_1, .int .i64 a0_2, .int .i64 a0_3, .int .i64 a0_4, .slice A0_5 l0_5.length c0_5, .int .i64 a0_6, .bool a0_7] 24 (0, 0)) (bk_q BK292)) : gb293 ≠ gb292)); replace BK292 := Aside0.mk (blk_below (g := gb292) (bk_q BK292) hb); clear hb hbox hg; have hnb5 := NB292_293.out; have hnc5 := NB293_292.out; have hcz6_0 : w4.cell? ⟨gb292, 0, none⟩ = some (.int .i64 a0_0) := (blk_cell BK292.out 0).trans rfl; have hcz6_1 : w4.cell? ⟨gb292, 1, none⟩ = some (.int .i64 a0_1) := (blk_cell BK292.out 1).trans rfl; have hcz6_2 : w4.cell? ⟨gb292, 2, none⟩ = some (.int .i64 a0_2) := (blk_cell BK292.out 2).trans rfl; have hcz6_3 : w4.cell? ⟨gb292, 3, none⟩ = some (.int .i64 a0_3) := (blk_cell BK292.out 3).trans rfl; have hcz6_4 : w4.cell? ⟨gb292, 4, none⟩ = some (.int .i64 a0_4) := (blk_cell BK292.out 4).trans rfl; have hcz6_5 : w4.cell? ⟨gb292, 5, none⟩ = some (.slice A0_5 l0_5.length c0_5) := (blk_cell BK292.out 5).trans rfl; have hcz6_6 : w4.cell? ⟨gb292, 6, none⟩ = some (.int .i64 a0_6) := (blk_cell BK292.out 6).trans rfl; have hcz6_7 : w4.cell? ⟨gb292, 7, none⟩ = some (.bool a0_7) := (blk_cell BK292.out 7).trans rfl; have hfz6_0 := blk_frozen BK292.out 0; have hfz6_1 := blk_frozen BK292.out 1; have hfz6_2 := blk_frozen BK292.out 2; have hfz6_3 := blk_frozen BK292.out 3; have hfz6_4 := blk_frozen BK292.out 4; have hfz6_5 := blk_frozen BK292.out 5; have hfz6_6 := blk_frozen BK292.out 6; have hfz6_7 := blk_frozen BK292.out 7) | ((with_reducible refine gate_dst (N := 3) rfl ?_); refine box_q 3 #[.int .i64 0, .int .i64 0, .int .i64 0, .int .i64 0, .int .i64 0, .slice none 0 0, .int .i64 0, .bool false] 24 ?_; intro gb294 hg w7 hbox hb; have BK294 := Aside0.mk (hbox); have GW294 := Aside0.mk ((by rw [hg]; exact (below_size (bw_q HB)) : w.heap.size ≤ gb294)); have GE294 := Aside0.mk ((by rw [hg]; exact (below_size (bw_q HB)) : w.heap.size ≤ gb294)); replace HB := Aside0.mk (below_step (bw_q HB) hb); have NB292_294 := Aside0.mk ((by rw [hg]; exact Nat.ne_of_lt (blk_lt (g := gb292) (o := .cells #[.int .i64 a0_0, .int .i64 a0_1, .int .i64 a0_2, .int .i64 a0_3, .int .i64 a0_4, .slice A0_5 l0_5.length c0_5, .int .i64 a0_6, .bool a0_7] 24 (0, 0)) (bk_q BK292)) : gb292 ≠ gb294)); have NB294_292 := Aside0.mk ((by rw [hg]; exact Nat.ne_of_gt (blk_lt (g := gb292) (o := .cells #[.int .i64 a0_0, .int .i64 a0_1, .int .i64 a0_2, .int .i64 a0_3, .int .i64 a0_4, .slice A0_5 l0_5.length c0_5, .int .i64 a0_6, .bool a0_7] 24 (0, 0)) (bk_q BK292)) : gb294 ≠ gb292)); replace BK292 := Aside0.mk (blk_below (g := gb292) (bk_q BK292) hb); have NB293_294 := Aside0.mk ((by rw [hg]; exact Nat.ne_of_lt (blk_lt (g := gb293) (o := .cells #[.int .i64 0, .int .i64 0, .int .i64 0, .int .i64 0, .int .i64 0, .slice none 0 0, .int .i64 0, .bool false] 24 (0, 0)) (bk_q BK293)) : gb293 ≠ gb294)); have NB294_293 := Aside0.mk ((by rw [hg]; exact Nat.ne_of_gt (blk_lt (g := gb293) (o := .cells #[.int .i64 0, .int .i64 0, .int .i64 0, .int .i64 0, .int .i64 0, .slice none 0 0, .int .i64 0, .bool false] 24 (0, 0)) (bk_q BK293)) : gb294 ≠ gb293)); replace BK293 := Aside0.mk (blk_below (g := gb293) (bk_q BK293) hb); clear hb hbox hg; have hnb8 := NB294_292.out; have hnc8 := NB292_294.out; have hnb9 := NB294_293.out; have hnc9 := NB293_294.out; have hcz10_0 : w7.cell? ⟨gb294, 0, none⟩ = some (.int .i64 0) := (blk_cell BK294.out 0).trans rfl; have hcz10_1 : w7.cell? ⟨gb294, 1, none⟩ = some (.int .i64 0) := (blk_cell BK294.out 1).trans rfl; have hcz10_2 : w7.cell? ⟨gb294, 2, none⟩ = some (.int .i64 0) := (blk_cell BK294.out 2).trans rfl; have hcz10_3 : w7.cell? ⟨gb294, 3, none⟩ = some (.int .i64 0) := (blk_cell BK294.out 3).trans rfl; have hcz10_4 : w7.cell? ⟨gb294, 4, none⟩ = some (.int .i64 0) := (blk_cell BK294.out 4).trans rfl; have hcz10_5 : w7.cell? ⟨gb294, 5, none⟩ = some (.slice none 0 0) := (blk_cell BK294.out 5).trans rfl; have hcz10_6 : w7.cell? ⟨gb294, 6, none⟩ = some (.int .i64 0) := (blk_cell BK294.out 6).trans rfl; have hcz10_7 : w7.cell? ⟨gb294, 7, none⟩ = some (.bool false) := (blk_cell BK294.out 7).trans rfl; have hfz10_0 := blk_frozen BK294.out 0; have hfz10_1 := blk_frozen BK294.out 1; have hfz10_2 := blk_frozen BK294.out 2; have hfz10_3 := blk_frozen BK294.out 3; have hfz10_4 := blk_frozen BK294.out 4; have hfz10_5 := blk_frozen BK294.out 5; have hfz10_6 := blk_frozen BK294.out 6; have hfz10_7 := blk_frozen BK294.out 7; have hcz11_0 : w7.cell? ⟨gb292, 0, none⟩ = some (.int .i64 a0_0) := (blk_cell BK292.out 0).trans rfl; have hcz11_1 : w7.cell? ⟨gb292, 1, none⟩ = some (.int .i64 a0_1) := (blk_cell BK292.out 1).trans rfl; have hcz11_2 : w7.cell? ⟨gb292, 2, none⟩ = some (.int .i64 a0_2) := (blk_cell BK292.out 2).trans rfl; have hcz11_3 : w7.cell? ⟨gb292, 3, none⟩ = some (.int .i64 a0_3) := (blk_cell BK292.out 3).trans rfl; have hcz11_4 : w7.cell? ⟨gb292, 4, none⟩ = some (.int .i64 a0_4) := (blk_cell BK292.out 4).trans rfl; have hcz11_5 : w7.cell? ⟨gb292, 5, none⟩ = some (.slice A0_5 l0_5.length c0_5) := (blk_cell BK292.out 5).trans rfl; have hcz11_6 : w7.cell? ⟨gb292, 6, none⟩ = some (.int .i64 a0_6) := (blk_cell BK292.out 6).trans rfl; have hcz11_7 : w7.cell? ⟨gb292, 7, none⟩ = some (.bool a0_7) := (blk_cell BK292.out 7).trans rfl; have hfz11_0 := blk_frozen BK292.out 0; have hfz11_1 := blk_frozen BK292.out 1; have hfz11_2 := blk_frozen BK292.out 2; have hfz11_3 := blk_frozen BK292.out 3; have hfz11_4 := blk_frozen BK292.out 4; have hfz11_5 := blk_frozen BK292.out 5; have hfz11_6 := blk_frozen BK292.out 6; have hfz11_7 := blk_frozen BK292.out 7))
 have n0_ : Aside0 (((((((((w7.setCell ⟨gb294, 0, none⟩ (.int .i64 a0_0)).setCell ⟨gb294, 1, none⟩ (.int .i64 a0_1)).setCell ⟨gb294, 2, none⟩ (.int .i64 a0_2)).setCell ⟨gb294, 3, none⟩ (.int .i64 a0_3)).setCell ⟨gb294, 4, none⟩ (.int .i64 a0_4)).setCell ⟨gb294, 5, none⟩ (.slice none 0 0)).setCell ⟨gb294, 6, none⟩ (.int .i64 0)).setCell ⟨gb294, 7, none⟩ (.bool false)).heap[gb292]? = some (.cells #[.int .i64 a0_0, .int .i64 a0_1, .int .i64 a0_2, .int .i64 a0_3, .int .i64 a0_4, .slice A0_5 l0_5.length c0_5, .int .i64 a0_6, .bool a0_7] 24 (0, 0))) := ⟨by refine bz_ ?_; refine blk_far ?_ NB292_294.out _; refine bz_ ?_; refine blk_far ?_ NB292_294.out _; refine bz_ ?_; refine blk_far ?_ NB292_294.out _; refine bz_ ?_; refine blk_far ?_ NB292_294.out _; refine bz_ ?_; refine blk_far ?_ NB292_294.out _; refine bz_ ?_; refine blk_far ?_ NB292_294.out _; refine bz_ ?_; refine blk_far ?_ NB292_294.out _; refine bz_ ?_; refine blk_far ?_ NB292_294.out _; refine bz_ ?_; exact BK292.out⟩
 have n1_ : Aside0 (((((((((w7.setCell ⟨gb294, 0, none⟩ (.int .i64 a0_0)).setCell ⟨gb294, 1, none⟩ (.int .i64 a0_1)).setCell ⟨gb294, 2, none⟩ (.int .i64 a0_2)).setCell ⟨gb294, 3, none⟩ (.int .i64 a0_3)).setCell ⟨gb294, 4, none⟩ (.int .i64 a0_4)).setCell ⟨gb294, 5, none⟩ (.slice none 0 0)).setCell ⟨gb294, 6, none⟩ (.int .i64 0)).setCell ⟨gb294, 7, none⟩ (.bool false)).heap[gb293]? = some (.cells #[.int .i64 0, .int .i64 0, .int .i64 0, .int .i64 0, .int .i64 0, .slice none 0 0, .int .i64 0, .bool false] 24 (0, 0))) := ⟨by refine bz_ ?_; refine blk_far ?_ NB293_294.out _; refine bz_ ?_; refine blk_far ?_ NB293_294.out _; refine bz_ ?_; refine blk_far ?_ NB293_294.out _; refine bz_ ?_; refine blk_far ?_ NB293_294.out _; refine bz_ ?_; refine blk_far ?_ NB293_294.out _; refine bz_ ?_; refine blk_far ?_ NB293_294.out _; refine bz_ ?_; refine blk_far ?_ NB293_294.out _; refine bz_ ?_; refine blk_far ?_ NB293_294.out _; refine bz_ ?_; exact BK293.out⟩
 have n2_ : Aside0 (((((((((w7.setCell ⟨gb294, 0, none⟩ (.int .i64 a0_0)).setCell ⟨gb294, 1, none⟩ (.int .i64 a0_1)).setCell ⟨gb294, 2, none⟩ (.int .i64 a0_2)).setCell ⟨gb294, 3, none⟩ (.int .i64 a0_3)).setCell ⟨gb294, 4, none⟩ (.int .i64 a0_4)).setCell ⟨gb294, 5, none⟩ (.slice none 0 0)).setCell ⟨gb294, 6, none⟩ (.int .i64 0)).setCell ⟨gb294, 7, none⟩ (.bool false)).heap[gb294]? = some (.cells #[.int .i64 a0_0, .int .i64 a0_1, .int .i64 a0_2, .int .i64 a0_3, .int .i64 a0_4, .slice none 0 0, .int .i64 0, .bool false] 24 (0, 0))) := ⟨by refine bz_ ?_; refine blk_put (cs := #[.int .i64 a0_0, .int .i64 a0_1, .int .i64 a0_2, .int .i64 a0_3, .int .i64 a0_4, .slice none 0 0, .int .i64 0, .bool false]) ?_ 7 _ rfl; refine bz_ ?_; refine blk_put (cs := #[.int .i64 a0_0, .int .i64 a0_1, .int .i64 a0_2, .int .i64 a0_3, .int .i64 a0_4, .slice none 0 0, .int .i64 0, .bool false]) ?_ 6 _ rfl; refine bz_ ?_; refine blk_put (cs := #[.int .i64 a0_0, .int .i64 a0_1, .int .i64 a0_2, .int .i64 a0_3, .int .i64 a0_4, .slice none 0 0, .int .i64 0, .bool false]) ?_ 5 _ rfl; refine bz_ ?_; refine blk_put (cs := #[.int .i64 a0_0, .int .i64 a0_1, .int .i64 a0_2, .int .i64 a0_3, .int .i64 0, .slice none 0 0, .int .i64 0, .bool false]) ?_ 4 _ rfl; refine bz_ ?_; refine blk_put (cs := #[.int .i64 a0_0, .int .i64 a0_1, .int .i64 a0_2, .int .i64 0, .int .i64 0, .slice none 0 0, .int .i64 0, .bool false]) ?_ 3 _ rfl; refine bz_ ?_; refine blk_put (cs := #[.int .i64 a0_0, .int .i64 a0_1, .int .i64 0, .int .i64 0, .int .i64 0, .slice none 0 0, .int .i64 0, .bool false]) ?_ 2 _ rfl; refine bz_ ?_; refine blk_put (cs := #[.int .i64 a0_0, .int .i64 0, .int .i64 0, .int .i64 0, .int .i64 0, .slice none 0 0, .int .i64 0, .bool false]) ?_ 1 _ rfl; refine bz_ ?_; refine blk_put (cs := #[.int .i64 0, .int .i64 0, .int .i64 0, .int .i64 0, .int .i64 0, .slice none 0 0, .int .i64 0, .bool false]) ?_ 0 _ rfl; refine bz_ ?_; exact BK294.out⟩
 have n3_ : Aside0 (Below w.heap.size w ((((((((w7.setCell ⟨gb294, 0, none⟩ (.int .i64 a0_0)).setCell ⟨gb294, 1, none⟩ (.int .i64 a0_1)).setCell ⟨gb294, 2, none⟩ (.int .i64 a0_2)).setCell ⟨gb294, 3, none⟩ (.int .i64 a0_3)).setCell ⟨gb294, 4, none⟩ (.int .i64 a0_4)).setCell ⟨gb294, 5, none⟩ (.slice none 0 0)).setCell ⟨gb294, 6, none⟩ (.int .i64 0)).setCell ⟨gb294, 7, none⟩ (.bool false))) := ⟨bw_q HB⟩
 (try clear BK292); (try clear BK293); (try clear BK294); (try clear HB)
 generalize ((((((((w7.setCell ⟨gb294, 0, none⟩ (.int .i64 a0_0)).setCell ⟨gb294, 1, none⟩ (.int .i64 a0_1)).setCell ⟨gb294, 2, none⟩ (.int .i64 a0_2)).setCell ⟨gb294, 3, none⟩ (.int .i64 a0_3)).setCell ⟨gb294, 4, none⟩ (.int .i64 a0_4)).setCell ⟨gb294, 5, none⟩ (.slice none 0 0)).setCell ⟨gb294, 6, none⟩ (.int .i64 0)).setCell ⟨gb294, 7, none⟩ (.bool false)) = w12 at n0_ n1_ n2_ n3_ ⊢
 have BK292 := n0_; have BK293 := n1_; have BK294 := n2_; have HB := n3_; clear n0_ n1_ n2_ n3_; have H := HC2.out; clear HC2
 by_cases c13 : a0_1 = 3
 ·rw [if_pos c13] at H
  have c13b0 : (a0_1 == 3) = true := beq_iff_eq.mpr c13
  have c13b1 : (a0_1 != 3) = false := bne_eq_false_iff_eq.mpr c13
  clear c13
  (first | rw [c13b0] | rw [c13b1] | (simp only [i64_w, i32_w]; first | rw [c13b0] | rw [c13b1]) | skip)
  simp only [Option.some.injEq, Prod.mk.injEq] at H
  obtain ⟨rfl, rfl, rfl, rfl, rfl, rfl, rfl, rfl⟩ := H; have hnb14 := NB294_292.out; have hnc14 := NB292_294.out; have hnb15 := NB294_293.out; have hnc15 := NB293_294.out; obtain ⟨hcz16_0, hcz16_1, hcz16_2, hcz16_3, hcz16_4, hcz16_5, hcz16_6, hcz16_7⟩ := cz8_ BK294; obtain ⟨hfz16_0, hfz16_1, hfz16_2, hfz16_3, hfz16_4, hfz16_5, hfz16_6, hfz16_7⟩ := fz8_ BK294; have hnb17 := NB293_292.out; have hnc17 := NB292_293.out; obtain ⟨hcz18_0, hcz18_1, hcz18_2, hcz18_3, hcz18_4, hcz18_5, hcz18_6, hcz18_7⟩ := cz8_ BK293; obtain ⟨hfz18_0, hfz18_1, hfz18_2, hfz18_3, hfz18_4, hfz18_5, hfz18_6, hfz18_7⟩ := fz8_ BK293
  go_wp2
  refine bodyPost_ret (results_cell_row rfl _ _ gb293 24 #[.int .i64 a0_0, .int .i64 a0_1, .int .i64 a0_2, .int .i64 a0_3, .int .i64 a0_4, .slice none 0 0, .int .i64 1, .bool false] (0, 0) _ rfl (by refine bz_ ?_; refine blk_put (cs := #[.int .i64 a0_0, .int .i64 a0_1, .int .i64 a0_2, .int .i64 a0_3, .int .i64 a0_4, .slice none 0 0, .int .i64 1, .bool false]) ?_ 7 _ rfl; refine bz_ ?_; refine blk_put (cs := #[.int .i64 a0_0, .int .i64 a0_1, .int .i64 a0_2, .int .i64 a0_3, .int .i64 a0_4, .slice none 0 0, .int .i64 0, .bool false]) ?_ 6 _ rfl; refine bz_ ?_; refine blk_put (cs := #[.int .i64 a0_0, .int .i64 a0_1, .int .i64 a0_2, .int .i64 a0_3, .int .i64 a0_4, .slice none 0 0, .int .i64 0, .bool false]) ?_ 5 _ rfl; refine bz_ ?_; refine blk_put (cs := #[.int .i64 a0_0, .int .i64 a0_1, .int .i64 a0_2, .int .i64 a0_3, .int .i64 0, .slice none 0 0, .int .i64 0, .bool false]) ?_ 4 _ rfl; refine bz_ ?_; refine blk_put (cs := #[.int .i64 a0_0, .int .i64 a0_1, .int .i64 a0_2, .int .i64 0, .int .i64 0, .slice none 0 0, .int .i64 0, .bool false]) ?_ 3 _ rfl; refine bz_ ?_; refine blk_put (cs := #[.int .i64 a0_0, .int .i64 a0_1, .int .i64 0, .int .i64 0, .int .i64 0, .slice none 0 0, .int .i64 0, .bool false]) ?_ 2 _ rfl; refine bz_ ?_; refine blk_put (cs := #[.int .i64 a0_0, .int .i64 0, .int .i64 0, .int .i64 0, .int .i64 0, .slice none 0 0, .int .i64 0, .bool false]) ?_ 1 _ rfl; refine bz_ ?_; refine blk_put (cs := #[.int .i64 0, .int .i64 0, .int .i64 0, .int .i64 0, .int .i64 0, .slice none 0 0, .int .i64 0, .bool false]) ?_ 0 _ rfl; refine bz_ ?_; refine blk_far ?_ NB293_294.out _; refine bz_ ?_; exact BK293.out) Try.underlying24 rfl (by kernel_rfl)) rfl ?_
  exact ⟨_, er_q, by first | exact Kd.R_nil _ _ _ _ _ | exact Kd.N_nil _ _ _ _ _ | exact Kd.V_nil _ _ _ _ _ | exact Kd.Q_nil _ _ _ _ _ | exact Kd.S_nil _ _ _ _ _, bw_q HB⟩
 ·rw [if_neg c13] at H
  have c13b0 : (a0_1 == 3) = false := beq_eq_false_iff_ne.mpr c13
  have c13b1 : (a0_1 != 3) = true := bne_iff_ne.mpr c13
  (first | rw [c13b0] | rw [c13b1] | (simp only [i64_w, i32_w]; first | rw [c13b0] | rw [c13b1]) | skip)
  simp only [Option.some.injEq, Prod.mk.injEq] at H
  obtain ⟨rfl, rfl, rfl, rfl, rfl, rfl, rfl, rfl⟩ := H; have hnb19 := NB294_292.out; have hnc19 := NB292_294.out; have hnb20 := NB294_293.out; have hnc20 := NB293_294.out; obtain ⟨hcz21_0, hcz21_1, hcz21_2, hcz21_3, hcz21_4, hcz21_5, hcz21_6, hcz21_7⟩ := cz8_ BK294; obtain ⟨hfz21_0, hfz21_1, hfz21_2, hfz21_3, hfz21_4, hfz21_5, hfz21_6, hfz21_7⟩ := fz8_ BK294; have hnb22 := NB293_292.out; have hnc22 := NB292_293.out; obtain ⟨hcz23_0, hcz23_1, hcz23_2, hcz23_3, hcz23_4, hcz23_5, hcz23_6, hcz23_7⟩ := cz8_ BK293; obtain ⟨hfz23_0, hfz23_1, hfz23_2, hfz23_3, hfz23_4, hfz23_5, hfz23_6, hfz23_7⟩ := fz8_ BK293
  go_wp2
  refine bodyPost_ret (results_cell_row rfl _ _ gb293 24 #[.int .i64 a0_0, .int .i64 a0_1, .int .i64 a0_2, .int .i64 a0_3, .int .i64 a0_4, .slice none 0 0, .int .i64 0, .bool false] (0, 0) _ rfl (by refine bz_ ?_; refine blk_put (cs := #[.int .i64 a0_0, .int .i64 a0_1, .int .i64 a0_2, .int .i64 a0_3, .int .i64 a0_4, .slice none 0 0, .int .i64 0, .bool false]) ?_ 7 _ rfl; refine bz_ ?_; refine blk_put (cs := #[.int .i64 a0_0, .int .i64 a0_1, .int .i64 a0_2, .int .i64 a0_3, .int .i64 a0_4, .slice none 0 0, .int .i64 0, .bool false]) ?_ 6 _ rfl; refine bz_ ?_; refine blk_put (cs := #[.int .i64 a0_0, .int .i64 a0_1, .int .i64 a0_2, .int .i64 a0_3, .int .i64 a0_4, .slice none 0 0, .int .i64 0, .bool false]) ?_ 5 _ rfl; refine bz_ ?_; refine blk_put (cs := #[.int .i64 a0_0, .int .i64 a0_1, .int .i64 a0_2, .int .i64 a0_3, .int .i64 0, .slice none 0 0, .int .i64 0, .bool false]) ?_ 4 _ rfl; refine bz_ ?_; refine blk_put (cs := #[.int .i64 a0_0, .int .i64 a0_1, .int .i64 a0_2, .int .i64 0, .int .i64 0, .slice none 0 0, .int .i64 0, .bool false]) ?_ 3 _ rfl; refine bz_ ?_; refine blk_put (cs := #[.int .i64 a0_0, .int .i64 a0_1, .int .i64 0, .int .i64 0, .int .i64 0, .slice none 0 0, .int .i64 0, .bool false]) ?_ 2 _ rfl; refine bz_ ?_; refine blk_put (cs := #[.int .i64 a0_0, .int .i64 0, .int .i64 0, .int .i64 0, .int .i64 0, .slice none 0 0, .int .i64 0, .bool false]) ?_ 1 _ rfl; refine bz_ ?_; refine blk_put (cs := #[.int .i64 0, .int .i64 0, .int .i64 0, .int .i64 0, .int .i64 0, .slice none 0 0, .int .i64 0, .bool false]) ?_ 0 _ rfl; refine bz_ ?_; exact BK293.out) Try.underlying24 rfl (by kernel_rfl)) rfl ?_
  exact ⟨_, er_q, by first | exact Kd.R_nil _ _ _ _ _ | exact Kd.N_nil _ _ _ _ _ | exact Kd.V_nil _ _ _ _ _ | exact Kd.Q_nil _ _ _ _ _ | exact Kd.S_nil _ _ _ _ _, bw_q HB⟩

end Go.Proofs.Ytnecbkognpponaa.Q

/- A Go function as a Lean function, and its contract: for every input the Go code comes to what the Lean function tells. -/

namespace Go.Proofs.Ytnecbkognpponaa.Q
open Go.RowKit Go.Proofs.YtnecbkognpponaaW.PrintWords Go.Proofs.YtnecbkognpponaaW.PrintLast Go.Proofs.YtnecbkognpponaaW.PrintMore
attribute [local go_sem] max2_int min2_int max_two min_two max_three min_three max_four min_four   -- for this text's walks alone
set_option linter.unusedVariables false
set_option linter.unusedSimpArgs false

/-! ### impl_SameKey: function 101 -/
def impl_SameKey.f (a0_0 : Int) (a0_1 : Int) (a0_2 : Int) (a0_3 : Int) (a0_4 : Int) (l0_5 : List (S63)) (a0_6 : Int) (a0_7 : Bool) (a1_0 : Int) (a1_1 : Int) (a1_2 : Int) (a1_3 : Int) (a1_4 : Int) (l1_5 : List (S63)) (a1_6 : Int) (a1_7 : Bool) : Option (Bool) := if a0_0 = a1_0 then (if a0_1 = a1_1 then (if a0_2 = a1_2 then (some (a0_3 == a1_3)) else (some false)) else (some false)) else (some false)
set_option maxHeartbeats 8000000 in
set_option maxRecDepth 100000 in
theorem impl_SameKey.calls (a0_0 : Int) (a0_1 : Int) (a0_2 : Int) (a0_3 : Int) (a0_4 : Int) (A0_5 : Option Addr) (c0_5 : Nat) (l0_5 : List (S63)) (a0_6 : Int) (a0_7 : Bool) (a1_0 : Int) (a1_1 : Int) (a1_2 : Int) (a1_3 : Int) (a1_4 : Int) (A1_5 : Option Addr) (c1_5 : Nat) (l1_5 : List (S63)) (a1_6 : Int) (a1_7 : Bool) (r : Bool) (w : World) (hr0_5 : Kd.C k63 w A0_5 l0_5.length l0_5) (hc0_5 : l0_5.length ≤ c0_5) (hr1_5 : Kd.C k63 w A1_5 l1_5.length l1_5) (hc1_5 : l1_5.length ≤ c1_5) (h : impl_SameKey.f a0_0 a0_1 a0_2 a0_3 a0_4 l0_5 a0_6 a0_7 a1_0 a1_1 a1_2 a1_3 a1_4 l1_5 a1_6 a1_7 = some r) :
  Calls Try.prog 101 #[.agg #[.int .i64 a0_0, .int .i64 a0_1, .int .i64 a0_2, .int .i64 a0_3, .int .i64 a0_4, .slice A0_5 l0_5.length c0_5, .int .i64 a0_6, .bool a0_7], .agg #[.int .i64 a1_0, .int .i64 a1_1, .int .i64 a1_2, .int .i64 a1_3, .int .i64 a1_4, .slice A1_5 l1_5.length c1_5, .int .i64 a1_6, .bool a1_7]] w fun e w' => e = .returned (.bool r) ∧ Below w.heap.size w w' := by
 have hu24 := Try.underlying24; have HR0_5 := Aside0.mk hr0_5; have HC0_5 := Aside0.mk hc0_5; clear hr0_5 hc0_5; have HR1_5 := Aside0.mk hr1_5; have HC1_5 := Aside0.mk hc1_5; clear hr1_5 hc1_5; have HB := Aside0.mk (Below.refl w.heap.size w)
 have H : (if a0_0 = a1_0 then (if a0_1 = a1_1 then (if a0_2 = a1_2 then (some (a0_3 == a1_3)) else (some false)) else (some false)) else (some false)) = some r := h
 clear h
 by_cases c3 : a0_0 = a1_0
 ·rw [if_pos c3] at H
  have c3b0 : (a0_0 == a1_0) = true := beq_iff_eq.mpr c3
  have c3b1 : (a0_0 != a1_0) = false := bne_eq_false_iff_eq.mpr c3
  clear c3
  by_cases c4 : a0_1 = a1_1
  ·rw [if_pos c4] at H
   have c4b0 : (a0_1 == a1_1) = true := beq_iff_eq.mpr c4
   have c4b1 : (a0_1 != a1_1) = false := bne_eq_false_iff_eq.mpr c4
   clear c4
   by_cases c5 : a0_2 = a1_2
   ·rw [if_pos c5] at H
    have c5b0 : (a0_2 == a1_2) = true := beq_iff_eq.mpr c5
    have c5b1 : (a0_2 != a1_2) = false := bne_eq_false_iff_eq.mpr c5
    clear c5; obtain rfl := Option.some.inj H
    go_enter Try.func101, Try.ntmps101
    go_wp2_with (first | ((with_reducible refine gate_dst (N := 2) rfl ?_); refine box_q 2 #[.int .i64 a0_0, .int .i64 a0_1, .int .i64 a0_2, .int .i64 a0_3, .int .i64 a0_4, .slice A0_5 l0_5.length c0_5, .int .i64 a0_6, .bool a0_7] 24 ?_; intro gb295 hg w6 hbox hb; have BK295 := Aside0.mk (hbox); have GW295 := Aside0.mk ((by rw [hg]; exact (below_size (bw_q HB)) : w.heap.size ≤ gb295)); have GE295 := Aside0.mk ((by rw [hg]; exact (below_size (bw_q HB)) : w.heap.size ≤ gb295)); replace HB := Aside0.mk (below_step (bw_q HB) hb); clear hb hbox hg) | ((with_reducible refine gate_dst (N := 3) rfl ?_); refine box_q 3 #[.int .i64 a1_0, .int .i64 a1_1, .int .i64 a1_2, .int .i64 a1_3, .int .i64 a1_4, .slice A1_5 l1_5.length c1_5, .int .i64 a1_6, .bool a1_7] 24 ?_; intro gb296 hg w7 hbox hb; have BK296 := Aside0.mk (hbox); have GW296 := Aside0.mk ((by rw [hg]; exact (below_size (bw_q HB)) : w.heap.size ≤ gb296)); have GE296 := Aside0.mk ((by rw [hg]; exact (below_size (bw_q HB)) : w.heap.size ≤ gb296)); replace HB := Aside0.mk (below_step (bw_q HB) hb); have NB295_296 := Aside0.mk ((by rw [hg]; exact Nat.ne_of_lt (blk_lt (g := gb295) (o := .cells #[.int .i64 a0_0, .int .i64 a0_1, .int .i64 a0_2, .int .i64 a0_3, .int .i64 a0_4, .slice A0_5 l0_5.length c0_5, .int .i64 a0_6, .bool a0_7] 24 (0, 0)) (bk_q BK295)) : gb295 ≠ gb296)); have NB296_295 := Aside0.mk ((by rw [hg]; exact Nat.ne_of_gt (blk_lt (g := gb295) (o := .cells #[.int .i64 a0_0, .int .i64 a0_1, .int .i64 a0_2, .int .i64 a0_3, .int .i64 a0_4, .slice A0_5 l0_5.length c0_5, .int .i64 a0_6, .bool a0_7] 24 (0, 0)) (bk_q BK295)) : gb296 ≠ gb295)); replace BK295 := Aside0.mk (blk_below (g := gb295) (bk_q BK295) hb); clear hb hbox hg; have hnb8 := NB295_296.out; have hnc8 := NB296_295.out; have hcz9_0 : w7.cell? ⟨gb295, 0, none⟩ = some (.int .i64 a0_0) := (blk_cell BK295.out 0).trans rfl; have hcz9_1 : w7.cell? ⟨gb295, 1, none⟩ = some (.int .i64 a0_1) := (blk_cell BK295.out 1).trans rfl; have hcz9_2 : w7.cell? ⟨gb295, 2, none⟩ = some (.int .i64 a0_2) := (blk_cell BK295.out 2).trans rfl; have hcz9_3 : w7.cell? ⟨gb295, 3, none⟩ = some (.int .i64 a0_3) := (blk_cell BK295.out 3).trans rfl; have hcz9_4 : w7.cell? ⟨gb295, 4, none⟩ = some (.int .i64 a0_4) := (blk_cell BK295.out 4).trans rfl; have hcz9_5 : w7.cell? ⟨gb295, 5, none⟩ = some (.slice A0_5 l0_5.length c0_5) := (blk_cell BK295.out 5).trans rfl; have hcz9_6 : w7.cell? ⟨gb295, 6, none⟩ = some (.int .i64 a0_6) := (blk_cell BK295.out 6).trans rfl; have hcz9_7 : w7.cell? ⟨gb295, 7, none⟩ = some (.bool a0_7) := (blk_cell BK295.out 7).trans rfl; have hfz9_0 := blk_frozen BK295.out 0; have hfz9_1 := blk_frozen BK295.out 1; have hfz9_2 := blk_frozen BK295.out 2; have hfz9_3 := blk_frozen BK295.out 3; have hfz9_4 := blk_frozen BK295.out 4; have hfz9_5 := blk_frozen BK295.out 5; have hfz9_6 := blk_frozen BK295.out 6; have hfz9_7 := blk_frozen BK295.out 7; have hcz10_0 : w7.cell? ⟨gb296, 0, none⟩ = some (.int .i64 a1_0) := (blk_cell BK296.out 0).trans rfl; have hcz10_1 : w7.cell? ⟨gb296, 1, none⟩ = some (.int .i64 a1_1) := (blk_cell BK296.out 1).trans rfl; have hcz10_2 : w7.cell? ⟨gb296, 2, none⟩ = some (.int .i64 a1_2) := (blk_cell BK296.out 2).trans rfl; have hcz10_3 : w7.cell? ⟨gb296, 3, none⟩ = some (.int .i64 a1_3) := (blk_cell BK296.out 3).trans rfl; have hcz10_4 : w7.cell? ⟨gb296, 4, none⟩ = some (.int .i64 a1_4) := (blk_cell BK296.out 4).trans rfl; have hcz10_5 : w7.cell? ⟨gb296, 5, none⟩ = some (.slice A1_5 l1_5.length c1_5) := (blk_cell BK296.out 5).trans rfl; have hcz10_6 : w7.cell? ⟨gb296, 6, none⟩ = some (.int .i64 a1_6) := (blk_cell BK296.out 6).trans rfl; have hcz10_7 : w7.cell? ⟨gb296, 7, none⟩ = some (.bool a1_7) := (blk_cell BK296.out 7).trans rfl; have hfz10_0 := blk_frozen BK296.out 0; have hfz10_1 := blk_frozen BK296.out 1; have hfz10_2 := blk_frozen BK296.out 2; have hfz10_3 := blk_frozen BK296.out 3; have hfz10_4 := blk_frozen BK296.out 4; have hfz10_5 := blk_frozen BK296.out 5; have hfz10_6 := blk_frozen BK296.out 6; have hfz10_7 := blk_frozen BK296.out 7))
    go_ret
    exact ⟨er_q, bw_q HB⟩
   ·rw [if_neg c5] at H
    have c5b0 : (a0_2 == a1_2) = false := beq_eq_false_iff_ne.mpr c5
    have c5b1 : (a0_2 != a1_2) = true := bne_iff_ne.mpr c5
    obtain rfl := Option.some.inj H
    go_enter Try.func101, Try.ntmps101
    go_wp2_with (first | ((with_reducible refine gate_dst (N := 2) rfl ?_); refine box_q 2 #[.int .i64 a0_0, .int .i64 a0_1, .int .i64 a0_2, .int .i64 a0_3, .int .i64 a0_4, .slice A0_5 l0_5.length c0_5, .int .i64 a0_6, .bool a0_7] 24 ?_; intro gb295 hg w11 hbox hb; have BK295 := Aside0.mk (hbox); have GW295 := Aside0.mk ((by rw [hg]; exact (below_size (bw_q HB)) : w.heap.size ≤ gb295)); have GE295 := Aside0.mk ((by rw [hg]; exact (below_size (bw_q HB)) : w.heap.size ≤ gb295)); replace HB := Aside0.mk (below_step (bw_q HB) hb); clear hb hbox hg) | ((with_reducible refine gate_dst (N := 3) rfl ?_); refine box_q 3 #[.int .i64 a1_0, .int .i64 a1_1, .int .i64 a1_2, .int .i64 a1_3, .int .i64 a1_4, .slice A1_5 l1_5.length c1_5, .int .i64 a1_6, .bool a1_7] 24 ?_; intro gb296 hg w12 hbox hb; have BK296 := Aside0.mk (hbox); have GW296 := Aside0.mk ((by rw [hg]; exact (below_size (bw_q HB)) : w.heap.size ≤ gb296)); have GE296 := Aside0.mk ((by rw [hg]; exact (below_size (bw_q HB)) : w.heap.size ≤ gb296)); replace HB := Aside0.mk (below_step (bw_q HB) hb); have NB295_296 := Aside0.mk ((by rw [hg]; exact Nat.ne_of_lt (blk_lt (g := gb295) (o := .cells #[.int .i64 a0_0, .int .i64 a0_1, .int .i64 a0_2, .int .i64 a0_3, .int .i64 a0_4, .slice A0_5 l0_5.length c0_5, .int .i64 a0_6, .bool a0_7] 24 (0, 0)) (bk_q BK295)) : gb295 ≠ gb296)); have NB296_295 := Aside0.mk ((by rw [hg]; exact Nat.ne_of_gt (blk_lt (g := gb295) (o := .cells #[.int .i64 a0_0, .int .i64 a0_1, .int .i64 a0_2, .int .i64 a0_3, .int .i64 a0_4, .slice A0_5 l0_5.length c0_5, .int .i64 a0_6, .bool a0_7] 24 (0, 0)) (bk_q BK295)) : gb296 ≠ gb295)); replace BK295 := Aside0.mk (blk_below (g := gb295) (bk_q BK295) hb); clear hb hbox hg; have hnb13 := NB295_296.out; have hnc13 := NB296_295.out; have hcz14_0 : w12.cell? ⟨gb295, 0, none⟩ = some (.int .i64 a0_0) := (blk_cell BK295.out 0).trans rfl; have hcz14_1 : w12.cell? ⟨gb295, 1, none⟩ = some (.int .i64 a0_1) := (blk_cell BK295.out 1).trans rfl; have hcz14_2 : w12.cell? ⟨gb295, 2, none⟩ = some (.int .i64 a0_2) := (blk_cell BK295.out 2).trans rfl; have hcz14_3 : w12.cell? ⟨gb295, 3, none⟩ = some (.int .i64 a0_3) := (blk_cell BK295.out 3).trans rfl; have hcz14_4 : w12.cell? ⟨gb295, 4, none⟩ = some (.int .i64 a0_4) := (blk_cell BK295.out 4).trans rfl; have hcz14_5 : w12.cell? ⟨gb295, 5, none⟩ = some (.slice A0_5 l0_5.length c0_5) := (blk_cell BK295.out 5).trans rfl; have hcz14_6 : w12.cell? ⟨gb295, 6, none⟩ = some (.int .i64 a0_6) := (blk_cell BK295.out 6).trans rfl; have hcz14_7 : w12.cell? ⟨gb295, 7, none⟩ = some (.bool a0_7) := (blk_cell BK295.out 7).trans rfl; have hfz14_0 := blk_frozen BK295.out 0; have hfz14_1 := blk_frozen BK295.out 1; have hfz14_2 := blk_frozen BK295.out 2; have hfz14_3 := blk_frozen BK295.out 3; have hfz14_4 := blk_frozen BK295.out 4; have hfz14_5 := blk_frozen BK295.out 5; have hfz14_6 := blk_frozen BK295.out 6; have hfz14_7 := blk_frozen BK295.out 7; have hcz15_0 : w12.cell? ⟨gb296, 0, none⟩ = some (.int .i64 a1_0) := (blk_cell BK296.out 0).trans rfl; have hcz15_1 : w12.cell? ⟨gb296, 1, none⟩ = some (.int .i64 a1_1) := (blk_cell BK296.out 1).trans rfl; have hcz15_2 : w12.cell? ⟨gb296, 2, none⟩ = some (.int .i64 a1_2) := (blk_cell BK296.out 2).trans rfl; have hcz15_3 : w12.cell? ⟨gb296, 3, none⟩ = some (.int .i64 a1_3) := (blk_cell BK296.out 3).trans rfl; have hcz15_4 : w12.cell? ⟨gb296, 4, none⟩ = some (.int .i64 a1_4) := (blk_cell BK296.out 4).trans rfl; have hcz15_5 : w12.cell? ⟨gb296, 5, none⟩ = some (.slice A1_5 l1_5.length c1_5) := (blk_cell BK296.out 5).trans rfl; have hcz15_6 : w12.cell? ⟨gb296, 6, none⟩ = some (.int .i64 a1_6) := (blk_cell BK296.out 6).trans rfl; have hcz15_7 : w12.cell? ⟨gb296, 7, none⟩ = some (.bool a1_7) := (blk_cell BK296.out 7).trans rfl; have hfz15_0 := blk_frozen BK296.out 0; have hfz15_1 := blk_frozen BK296.out 1; have hfz15_2 := blk_frozen BK296.out 2; have hfz15_3 := blk_frozen BK296.out 3; have hfz15_4 := blk_frozen BK296.out 4; have hfz15_5 := blk_frozen BK296.out 5; have hfz15_6 := blk_frozen BK296.out 6; have hfz15_7 := blk_frozen BK296.out 7))
    go_ret
    exact ⟨er_q, bw_q HB⟩
  ·rw [if_neg c4] at H
   have c4b0 : (a0_1 == a1_1) = false := beq_eq_false_iff_ne.mpr c4
   have c4b1 : (a0_1 != a1_1) = true := bne_iff_ne.mpr c4
   obtain rfl := Option.some.inj H
   go_enter Try.func101, Try.ntmps101
   go_wp2_with (first | ((with_reducible refine gate_dst (N := 2) rfl ?_); refine box_q 2 #[.int .i64 a0_0, .int .i64 a0_1, .int .i64 a0_2, .int .i64 a0_3, .int .i64 a0_4, .slice A0_5 l0_5.length c0_5, .int .i64 a0_6, .bool a0_7] 24 ?_; intro gb295 hg w16 hbox hb; have BK295 := Aside0.mk (hbox); have GW295 := Aside0.mk ((by rw [hg]; exact (below_size (bw_q HB)) : w.heap.size ≤ gb295)); have GE295 := Aside0.mk ((by rw [hg]; exact (below_size (bw_q HB)) : w.heap.size ≤ gb295)); replace HB := Aside0.mk (below_step (bw_q HB) hb); clear hb hbox hg) | ((with_reducible refine gate_dst (N := 3) rfl ?_); refine box_q 3 #[.int .i64 a1_0, .int .i64 a1_1, .int .i64 a1_2, .int .i64 a1_3, .int .i64 a1_4, .slice A1_5 l1_5.length c1_5, .int .i64 a1_6, .bool a1_7] 24 ?_; intro gb296 hg w17 hbox hb; have BK296 := Aside0.mk (hbox); have GW296 := Aside0.mk ((by rw [hg]; exact (below_size (bw_q HB)) : w.heap.size ≤ gb296)); have GE296 := Aside0.mk ((by rw [hg]; exact (below_size (bw_q HB)) : w.heap.size ≤ gb296)); replace HB := Aside0.mk (below_step (bw_q HB) hb); have NB295_296 := Aside0.mk ((by rw [hg]; exact Nat.ne_of_lt (blk_lt (g := gb295) (o := .cells #[.int .i64 a0_0, .int .i64 a0_1, .int .i64 a0_2, .int .i64 a0_3, .int .i64 a0_4, .slice A0_5 l0_5.length c0_5, .int .i64 a0_6, .bool a0_7] 24 (0, 0)) (bk_q BK295)) : gb295 ≠ gb296)); have NB296_295 := Aside0.mk ((by rw [hg]; exact Nat.ne_of_gt (blk_lt (g := gb295) (o := .cells #[.int .i64 a0_0, .int .i64 a0_1, .int .i64 a0_2, .int .i64 a0_3, .int .i64 a0_4, .slice A0_5 l0_5.length c0_5, .int .i64 a0_6, .bool a0_7] 24 (0, 0)) (bk_q BK295)) : gb296 ≠ gb295)); replace BK295 := Aside0.mk (blk_below (g := gb295) (bk_q BK295) hb); clear hb hbox hg; have hnb18 := NB295_296.out; have hnc18 := NB296_295.out; have hcz19_0 : w17.cell? ⟨gb295, 0, none⟩ = some (.int .i64 a0_0) := (blk_cell BK295.out 0).trans rfl; have hcz19_1 : w17.cell? ⟨gb295, 1, none⟩ = some (.int .i64 a0_1) := (blk_cell BK295.out 1).trans rfl; have hcz19_2 : w17.cell? ⟨gb295, 2, none⟩ = some (.int .i64 a0_2) := (blk_cell BK295.out 2).trans rfl; have hcz19_3 : w17.cell? ⟨gb295, 3, none⟩ = some (.int .i64 a0_3) := (blk_cell BK295.out 3).trans rfl; have hcz19_4 : w17.cell? ⟨gb295, 4, none⟩ = some (.int .i64 a0_4) := (blk_cell BK295.out 4).trans rfl; have hcz19_5 : w17.cell? ⟨gb295, 5, none⟩ = some (.slice A0_5 l0_5.length c0_5) := (blk_cell BK295.out 5).trans rfl; have hcz19_6 : w17.cell? ⟨gb295, 6, none⟩ = some (.int .i64 a0_6) := (blk_cell BK295.out 6).trans rfl; have hcz19_7 : w17.cell? ⟨gb295, 7, none⟩ = some (.bool a0_7) := (blk_cell BK295.out 7).trans rfl; have hfz19_0 := blk_frozen BK295.out 0; have hfz19_1 := blk_frozen BK295.out 1; have hfz19_2 := blk_frozen BK295.out 2; have hfz19_3 := blk_frozen BK295.out 3; have hfz19_4 := blk_frozen BK295.out 4; have hfz19_5 := blk_frozen BK295.out 5; have hfz19_6 := blk_frozen BK295.out 6; have hfz19_7 := blk_frozen BK295.out 7; have hcz20_0 : w17.cell? ⟨gb296, 0, none⟩ = some (.int .i64 a1_0) := (blk_cell BK296.out 0).trans rfl; have hcz20_1 : w17.cell? ⟨gb296, 1, none⟩ = some (.int .i64 a1_1) := (blk_cell BK296.out 1).trans rfl; have hcz20_2 : w17.cell? ⟨gb296, 2, none⟩ = some (.int .i64 a1_2) := (blk_cell BK296.out 2).trans rfl; have hcz20_3 : w17.cell? ⟨gb296, 3, none⟩ = some (.int .i64 a1_3) := (blk_cell BK296.out 3).trans rfl; have hcz20_4 : w17.cell? ⟨gb296, 4, none⟩ = some (.int .i64 a1_4) := (blk_cell BK296.out 4).trans rfl; have hcz20_5 : w17.cell? ⟨gb296, 5, none⟩ = some (.slice A1_5 l1_5.length c1_5) := (blk_cell BK296.out 5).trans rfl; have hcz20_6 : w17.cell? ⟨gb296, 6, none⟩ = some (.int .i64 a1_6) := (blk_cell BK296.out 6).trans rfl; have hcz20_7 : w17.cell? ⟨gb296, 7, none⟩ = some (.bool a1_7) := (blk_cell BK296.out 7).trans rfl; have hfz20_0 := blk_frozen BK296.out 0; have hfz20_1 := blk_frozen BK296.out 1; have hfz20_2 := blk_frozen BK296.out 2; have hfz20_3 := blk_frozen BK296.out 3; have hfz20_4 := blk_frozen BK296.out 4; have hfz20_5 := blk_frozen BK296.out 5; have hfz20_6 := blk_frozen BK296.out 6; have hfz20_7 := blk_frozen BK296.out 7))
   go_ret
   exact ⟨er_q, bw_q HB⟩
 ·rw [if_neg c3] at H
  have c3b0 : (a0_0 == a1_0) = false := beq_eq_false_iff_ne.mpr c3
  have c3b1 : (a0_0 != a1_0) = true := bne_iff_ne.mpr c3
  obtain rfl := Option.some.inj H
  go_enter Try.func101, Try.ntmps101
  go_wp2_with (first | ((with_reducible refine gate_dst (N := 2) rfl ?_); refine box_q 2 #[.int .i64 a0_0, .int .i64 a0_1, .int .i64 a0_2, .int .i64 a0_3, .int .i64 a0_4, .slice A0_5 l0_5.length c0_5, .int .i64 a0_6, .bool a0_7] 24 ?_; intro gb295 hg w21 hbox hb; have BK295 := Aside0.mk (hbox); have GW295 := Aside0.mk ((by rw [hg]; exact (below_size (bw_q HB)) : w.heap.size ≤ gb295)); have GE295 := Aside0.mk ((by rw [hg]; exact (below_size (bw_q HB)) : w.heap.size ≤ gb295)); replace HB := Aside0.mk (below_step (bw_q HB) hb); clear hb hbox hg) | ((with_reducible refine gate_dst (N := 3) rfl ?_); refine box_q 3 #[.int .i64 a1_0, .int .i64 a1_1, .int .i64 a1_2, .int .i64 a1_3, .int .i64 a1_4, .slice A1_5 l1_5.length c1_5, .int .i64 a1_6, .bool a1_7] 24 ?_; intro gb296 hg w22 hbox hb; have BK296 := Aside0.mk (hbox); have GW296 := Aside0.mk ((by rw [hg]; exact (below_size (bw_q HB)) : w.heap.size ≤ gb296)); have GE296 := Aside0.mk ((by rw [hg]; exact (below_size (bw_q HB)) : w.heap.size ≤ gb296)); replace HB := Aside0.mk (below_step (bw_q HB) hb); have NB295_296 := Aside0.mk ((by rw [hg]; exact Nat.ne_of_lt (blk_lt (g := gb295) (o := .cells #[.int .i64 a0_0, .int .i64 a0_1, .int .i64 a0_2, .int .i64 a0_3, .int .i64 a0_4, .slice A0_5 l0_5.length c0_5, .int .i64 a0_6, .bool a0_7] 24 (0, 0)) (bk_q BK295)) : gb295 ≠ gb296)); have NB296_295 := Aside0.mk ((by rw [hg]; exact Nat.ne_of_gt (blk_lt (g := gb295) (o := .cells #[.int .i64 a0_0, .int .i64 a0_1, .int .i64 a0_2, .int .i64 a0_3, .int .i64 a0_4, .slice A0_5 l0_5.length c0_5, .int .i64 a0_6, .bool a0_7] 24 (0, 0)) (bk_q BK295)) : gb296 ≠ gb295)); replace BK295 := Aside0.mk (blk_below (g := gb295) (bk_q BK295) hb); clear hb hbox hg; have hnb23 := NB295_296.out; have hnc23 := NB296_295.out; have hcz24_0 : w22.cell? ⟨gb295, 0, none⟩ = some (.int .i64 a0_0) := (blk_cell BK295.out 0).trans rfl; have hcz24_1 : w22.cell? ⟨gb295, 1, none⟩ = some (.int .i64 a0_1) := (blk_cell BK295.out 1).trans rfl; have hcz24_2 : w22.cell? ⟨gb295, 2, none⟩ = some (.int .i64 a0_2) := (blk_cell BK295.out 2).trans rfl; have hcz24_3 : w22.cell? ⟨gb295, 3, none⟩ = some (.int .i64 a0_3) := (blk_cell BK295.out 3).trans rfl; have hcz24_4 : w22.cell? ⟨gb295, 4, none⟩ = some (.int .i64 a0_4) := (blk_cell BK295.out 4).trans rfl; have hcz24_5 : w22.cell? ⟨gb295, 5, none⟩ = some (.slice A0_5 l0_5.length c0_5) := (blk_cell BK295.out 5).trans rfl; have hcz24_6 : w22.cell? ⟨gb295, 6, none⟩ = some (.int .i64 a0_6) := (blk_cell BK295.out 6).trans rfl; have hcz24_7 : w22.cell? ⟨gb295, 7, none⟩ = some (.bool a0_7) := (blk_cell BK295.out 7).trans rfl; have hfz24_0 := blk_frozen BK295.out 0; have hfz24_1 := blk_frozen BK295.out 1; have hfz24_2 := blk_frozen BK295.out 2; have hfz24_3 := blk_frozen BK295.out 3; have hfz24_4 := blk_frozen BK295.out 4; have hfz24_5 := blk_frozen BK295.out 5; have hfz24_6 := blk_frozen BK295.out 6; have hfz24_7 := blk_frozen BK295.out 7; have hcz25_0 : w22.cell? ⟨gb296, 0, none⟩ = some (.int .i64 a1_0) := (blk_cell BK296.out 0).trans rfl; have hcz25_1 : w22.cell? ⟨gb296, 1, none⟩ = some (.int .i64 a1_1) := (blk_cell BK296.out 1).trans rfl; have hcz25_2 : w22.cell? ⟨gb296, 2, none⟩ = some (.int .i64 a1_2) := (blk_cell BK296.out 2).trans rfl; have hcz25_3 : w22.cell? ⟨gb296, 3, none⟩ = some (.int .i64 a1_3) := (blk_cell BK296.out 3).trans rfl; have hcz25_4 : w22.cell? ⟨gb296, 4, none⟩ = some (.int .i64 a1_4) := (blk_cell BK296.out 4).trans rfl; have hcz25_5 : w22.cell? ⟨gb296, 5, none⟩ = some (.slice A1_5 l1_5.length c1_5) := (blk_cell BK296.out 5).trans rfl; have hcz25_6 : w22.cell? ⟨gb296, 6, none⟩ = some (.int .i64 a1_6) := (blk_cell BK296.out 6).trans rfl; have hcz25_7 : w22.cell? ⟨gb296, 7, none⟩ = some (.bool a1_7) := (blk_cell BK296.out 7).trans rfl; have hfz25_0 := blk_frozen BK296.out 0; have hfz25_1 := blk_frozen BK296.out 1; have hfz25_2 := blk_frozen BK296.out 2; have hfz25_3 := blk_frozen BK296.out 3; have hfz25_4 := blk_frozen BK296.out 4; have hfz25_5 := blk_frozen BK296.out 5; have hfz25_6 := blk_frozen BK296.out 6; have hfz25_7 := blk_frozen BK296.out 7))
  go_ret
  exact ⟨er_q, bw_q HB⟩

end Go.Proofs.Ytnecbkognpponaa.Q
