import Derived.Test.YthjmdiggglkeaaaXFnAheadQx1
import Derived.Test.YthjmdiggglkeaaaXFnAheadQspecSameKey
/- A Go function as a Lean function, and its contract: for every input the Go code comes to what the Lean function tells. -/



namespace Go.Proofs.Ythjmdiggglkeaaa.Q
open Go.RowKit Go.Proofs.YthjmdiggglkeaaaW.PrintWords Go.Proofs.YthjmdiggglkeaaaW.PrintLast Go.Proofs.YthjmdiggglkeaaaW.PrintMore
attribute [local go_sem] max2_int min2_int max_two min_two max_three min_three max_four min_four   -- for this text's walks alone
set_option linter.unusedVariables false
set_option linter.unusedSimpArgs false

attribute [local go_sem high] eqA127
/-! ### spec_SameBody: function 71 -/
mutual
def spec_SameBody.j0 : Nat → Bool → Int → Int → Int → Int → Int → List (S127) → Int → Bool → Int → Int → Int → Int → Int → List (S127) → Int → Bool → Option (Bool)
 | 0, _, _, _, _, _, _, _, _, _, _, _, _, _, _, _, _, _ => none
 | k + 1, x32, x1905000, x1905001, x1905002, x1905003, x1905004, x1905005, x1905006, x1905007, x1906000, x1906001, x1906002, x1906003, x1906004, x1906005, x1906006, x1906007 => if x32 = true then (some false) else (spec_SameBody.l0 k 0 x1905000 x1905001 x1905002 x1905003 x1905004 x1905005 x1905006 x1905007 x1906000 x1906001 x1906002 x1906003 x1906004 x1906005 x1906006 x1906007)
def spec_SameBody.l0 : Nat → Int → Int → Int → Int → Int → Int → List (S127) → Int → Bool → Int → Int → Int → Int → Int → List (S127) → Int → Bool → Option (Bool)
 | 0, _, _, _, _, _, _, _, _, _, _, _, _, _, _, _, _, _ => none
 | k + 1, x5, x1905000, x1905001, x1905002, x1905003, x1905004, x1905005, x1905006, x1905007, x1906000, x1906001, x1906002, x1906003, x1906004, x1906005, x1906006, x1906007 => if x5 < (x1905005.length : Int) then (if 0 ≤ x5 then (if x5 < (x1906005.length : Int) then (if (!(((rd_T127 x1905005 x5).f0) == ((rd_T127 x1906005 x5).f0)) || (!(((rd_T127 x1905005 x5).f1) == ((rd_T127 x1906005 x5).f1)))) = true then (some false) else (spec_SameBody.l0 k (wrap64 (x5 + 1)) x1905000 x1905001 x1905002 x1905003 x1905004 x1905005 x1905006 x1905007 x1906000 x1906001 x1906002 x1906003 x1906004 x1906005 x1906006 x1906007)) else (none)) else (none)) else (some true)
end
def spec_SameBody.f (k : Nat) (a0_0 : Int) (a0_1 : Int) (a0_2 : Int) (a0_3 : Int) (a0_4 : Int) (l0_5 : List (S127)) (a0_6 : Int) (a0_7 : Bool) (a1_0 : Int) (a1_1 : Int) (a1_2 : Int) (a1_3 : Int) (a1_4 : Int) (l1_5 : List (S127)) (a1_6 : Int) (a1_7 : Bool) : Option (Bool) := (spec_SameKey.f a0_0 a0_1 a0_2 a0_3 a0_4 l0_5 a0_6 a0_7 a1_0 a1_1 a1_2 a1_3 a1_4 l1_5 a1_6 a1_7).bind fun t1906 => (if t1906 = true then (if a0_6 = a1_6 then (if (a0_7 != a1_7) = true then (spec_SameBody.j0 k true a0_0 a0_1 a0_2 a0_3 a0_4 l0_5 a0_6 a0_7 a1_0 a1_1 a1_2 a1_3 a1_4 l1_5 a1_6 a1_7) else (spec_SameBody.j0 k ((l0_5.length : Int) != (l1_5.length : Int)) a0_0 a0_1 a0_2 a0_3 a0_4 l0_5 a0_6 a0_7 a1_0 a1_1 a1_2 a1_3 a1_4 l1_5 a1_6 a1_7)) else (spec_SameBody.j0 k true a0_0 a0_1 a0_2 a0_3 a0_4 l0_5 a0_6 a0_7 a1_0 a1_1 a1_2 a1_3 a1_4 l1_5 a1_6 a1_7)) else (spec_SameBody.j0 k true a0_0 a0_1 a0_2 a0_3 a0_4 l0_5 a0_6 a0_7 a1_0 a1_1 a1_2 a1_3 a1_4 l1_5 a1_6 a1_7))
theorem spec_SameBody.mono_l : ∀ k, (∀ y0 y1 y2 y3 y4 y5 y6 y7 y8 y9 y10 y11 y12 y13 y14 y15 y16, LeO (spec_SameBody.j0 k y0 y1 y2 y3 y4 y5 y6 y7 y8 y9 y10 y11 y12 y13 y14 y15 y16) (spec_SameBody.j0 (k + 1) y0 y1 y2 y3 y4 y5 y6 y7 y8 y9 y10 y11 y12 y13 y14 y15 y16)) ∧ (∀ y0 y1 y2 y3 y4 y5 y6 y7 y8 y9 y10 y11 y12 y13 y14 y15 y16, LeO (spec_SameBody.l0 k y0 y1 y2 y3 y4 y5 y6 y7 y8 y9 y10 y11 y12 y13 y14 y15 y16) (spec_SameBody.l0 (k + 1) y0 y1 y2 y3 y4 y5 y6 y7 y8 y9 y10 y11 y12 y13 y14 y15 y16))
 | 0 => ⟨fun _ _ _ _ _ _ _ _ _ _ _ _ _ _ _ _ _ r h => by simp [spec_SameBody.j0] at h, fun _ _ _ _ _ _ _ _ _ _ _ _ _ _ _ _ _ r h => by simp [spec_SameBody.l0] at h⟩
 | k + 1 => by
  obtain ⟨ih0, ih1⟩ := spec_SameBody.mono_l k
  refine ⟨?_, ?_⟩
  ·intro y0 y1 y2 y3 y4 y5 y6 y7 y8 y9 y10 y11 y12 y13 y14 y15 y16
   unfold spec_SameBody.j0
   repeat' first
   | (with_reducible exact ih0 _ _ _ _ _ _ _ _ _ _ _ _ _ _ _ _ _)
   | (with_reducible exact ih1 _ _ _ _ _ _ _ _ _ _ _ _ _ _ _ _ _)
   | (with_reducible exact LeO.refl _)
   | (with_reducible exact LeO.none _)
   | (with_reducible refine LeO.ite ?_ ?_)
   | (with_reducible refine LeO.bind ?_ (fun _ => ?_))
   | exact ih0 _ _ _ _ _ _ _ _ _ _ _ _ _ _ _ _ _
   | exact ih1 _ _ _ _ _ _ _ _ _ _ _ _ _ _ _ _ _
   | exact LeO.none _
   | refine LeO.ite ?_ ?_
   | refine LeO.bind ?_ (fun _ => ?_)
  ·intro y0 y1 y2 y3 y4 y5 y6 y7 y8 y9 y10 y11 y12 y13 y14 y15 y16
   unfold spec_SameBody.l0
   repeat' first
   | (with_reducible exact ih0 _ _ _ _ _ _ _ _ _ _ _ _ _ _ _ _ _)
   | (with_reducible exact ih1 _ _ _ _ _ _ _ _ _ _ _ _ _ _ _ _ _)
   | (with_reducible exact LeO.refl _)
   | (with_reducible exact LeO.none _)
   | (with_reducible refine LeO.ite ?_ ?_)
   | (with_reducible refine LeO.bind ?_ (fun _ => ?_))
   | exact ih0 _ _ _ _ _ _ _ _ _ _ _ _ _ _ _ _ _
   | exact ih1 _ _ _ _ _ _ _ _ _ _ _ _ _ _ _ _ _
   | exact LeO.none _
   | refine LeO.ite ?_ ?_
   | refine LeO.bind ?_ (fun _ => ?_)
theorem spec_SameBody.mono : ∀ a0 a1 a2 a3 a4 a5 a6 a7 a8 a9 a10 a11 a12 a13 a14 a15 k, LeO (spec_SameBody.f k a0 a1 a2 a3 a4 a5 a6 a7 a8 a9 a10 a11 a12 a13 a14 a15) (spec_SameBody.f (k + 1) a0 a1 a2 a3 a4 a5 a6 a7 a8 a9 a10 a11 a12 a13 a14 a15) := by
 intro a0 a1 a2 a3 a4 a5 a6 a7 a8 a9 a10 a11 a12 a13 a14 a15 k
 obtain ⟨ih0, ih1⟩ := spec_SameBody.mono_l k
 unfold spec_SameBody.f
 repeat' first
   | (with_reducible exact ih0 _ _ _ _ _ _ _ _ _ _ _ _ _ _ _ _ _)
   | (with_reducible exact ih1 _ _ _ _ _ _ _ _ _ _ _ _ _ _ _ _ _)
   | (with_reducible exact LeO.refl _)
   | (with_reducible exact LeO.none _)
   | (with_reducible refine LeO.ite ?_ ?_)
   | (with_reducible refine LeO.bind ?_ (fun _ => ?_))
   | exact ih0 _ _ _ _ _ _ _ _ _ _ _ _ _ _ _ _ _
   | exact ih1 _ _ _ _ _ _ _ _ _ _ _ _ _ _ _ _ _
   | exact LeO.none _
   | refine LeO.ite ?_ ?_
   | refine LeO.bind ?_ (fun _ => ?_)
set_option maxHeartbeats 8000000 in
set_option maxRecDepth 100000 in
theorem spec_SameBody.calls (k : Nat) (a0_0 : Int) (a0_1 : Int) (a0_2 : Int) (a0_3 : Int) (a0_4 : Int) (A0_5 : Option Addr) (c0_5 : Nat) (l0_5 : List (S127)) (a0_6 : Int) (a0_7 : Bool) (a1_0 : Int) (a1_1 : Int) (a1_2 : Int) (a1_3 : Int) (a1_4 : Int) (A1_5 : Option Addr) (c1_5 : Nat) (l1_5 : List (S127)) (a1_6 : Int) (a1_7 : Bool) (r : Bool) (w : World) (hr0_5 : Kd.C k127 w A0_5 l0_5.length l0_5) (hc0_5 : l0_5.length ≤ c0_5) (hr1_5 : Kd.C k127 w A1_5 l1_5.length l1_5) (hc1_5 : l1_5.length ≤ c1_5) (h : spec_SameBody.f k a0_0 a0_1 a0_2 a0_3 a0_4 l0_5 a0_6 a0_7 a1_0 a1_1 a1_2 a1_3 a1_4 l1_5 a1_6 a1_7 = some r) :
  Calls Try.prog 71 #[.agg #[.int .i64 a0_0, .int .i64 a0_1, .int .i64 a0_2, .int .i64 a0_3, .int .i64 a0_4, .slice A0_5 l0_5.length c0_5, .int .i64 a0_6, .bool a0_7], .agg #[.int .i64 a1_0, .int .i64 a1_1, .int .i64 a1_2, .int .i64 a1_3, .int .i64 a1_4, .slice A1_5 l1_5.length c1_5, .int .i64 a1_6, .bool a1_7]] w fun e w' => e = .returned (.bool r) ∧ Below w.heap.size w w' := by
 have hu61 := Try.underlying61
 have hu127 := Try.underlying127
 have HR0_5 := Aside0.mk hr0_5
 have HC0_5 := Aside0.mk hc0_5
 clear hr0_5 hc0_5
 have HR1_5 := Aside0.mk hr1_5
 have HC1_5 := Aside0.mk hc1_5
 clear hr1_5 hc1_5
 have HB := Aside0.mk (Below.refl w.heap.size w)
 have H : ((spec_SameKey.f a0_0 a0_1 a0_2 a0_3 a0_4 l0_5 a0_6 a0_7 a1_0 a1_1 a1_2 a1_3 a1_4 l1_5 a1_6 a1_7).bind fun t1906 => (if t1906 = true then (if a0_6 = a1_6 then (if (a0_7 != a1_7) = true then (spec_SameBody.j0 k true a0_0 a0_1 a0_2 a0_3 a0_4 l0_5 a0_6 a0_7 a1_0 a1_1 a1_2 a1_3 a1_4 l1_5 a1_6 a1_7) else (spec_SameBody.j0 k ((l0_5.length : Int) != (l1_5.length : Int)) a0_0 a0_1 a0_2 a0_3 a0_4 l0_5 a0_6 a0_7 a1_0 a1_1 a1_2 a1_3 a1_4 l1_5 a1_6 a1_7)) else (spec_SameBody.j0 k true a0_0 a0_1 a0_2 a0_3 a0_4 l0_5 a0_6 a0_7 a1_0 a1_1 a1_2 a1_3 a1_4 l1_5 a1_6 a1_7)) else (spec_SameBody.j0 k true a0_0 a0_1 a0_2 a0_3 a0_4 l0_5 a0_6 a0_7 a1_0 a1_1 a1_2 a1_3 a1_4 l1_5 a1_6 a1_7))) = some r := h
 clear h
 have HC3 := Aside0.mk H
 clear H
 go_enter Try.func71, Try.ntmps71
 go_upto_region 1 with (first | ((with_reducible refine gate_dst (N := 2) rfl ?_); (try (refine gate_guard (by rfl) ?_; dsimp only)); refine box_q 2 #[.int .i64 a0_0, .int .i64 a0_1, .int .i64 a0_2, .int .i64 a0_3, .int .i64 a0_4, .slice A0_5 l0_5.length c0_5, .int .i64 a0_6, .bool a0_7] 61 ?_; intro gb1904 hg w4 hbox hb; have BK1904 := Aside0.mk (hbox); have GW1904 := Aside0.mk ((by rw [hg]; exact (below_size (bw_q HB)) : w.heap.size ≤ gb1904)); have GE1904 := Aside0.mk ((by rw [hg]; exact (below_size (bw_q HB)) : w.heap.size ≤ gb1904)); replace HB := Aside0.mk (below_step (bw_q HB) hb); clear hb hbox hg) | ((with_reducible refine gate_dst (N := 3) rfl ?_); (try (refine gate_guard (by rfl) ?_; dsimp only)); refine box_q 3 #[.int .i64 a1_0, .int .i64 a1_1, .int .i64 a1_2, .int .i64 a1_3, .int .i64 a1_4, .slice A1_5 l1_5.length c1_5, .int .i64 a1_6, .bool a1_7] 61 ?_; intro gb1905 hg w5 hbox hb; have BK1905 := Aside0.mk (hbox); have GW1905 := Aside0.mk ((by rw [hg]; exact (below_size (bw_q HB)) : w.heap.size ≤ gb1905)); have GE1905 := Aside0.mk ((by rw [hg]; exact (below_size (bw_q HB)) : w.heap.size ≤ gb1905)); replace HB := Aside0.mk (below_step (bw_q HB) hb); have NB1904_1905 := Aside0.mk ((by rw [hg]; exact Nat.ne_of_lt (blk_lt (g := gb1904) (o := .cells #[.int .i64 a0_0, .int .i64 a0_1, .int .i64 a0_2, .int .i64 a0_3, .int .i64 a0_4, .slice A0_5 l0_5.length c0_5, .int .i64 a0_6, .bool a0_7] 61 (0, 0)) (bk_q BK1904)) : gb1904 ≠ gb1905)); have NB1905_1904 := Aside0.mk ((by rw [hg]; exact Nat.ne_of_gt (blk_lt (g := gb1904) (o := .cells #[.int .i64 a0_0, .int .i64 a0_1, .int .i64 a0_2, .int .i64 a0_3, .int .i64 a0_4, .slice A0_5 l0_5.length c0_5, .int .i64 a0_6, .bool a0_7] 61 (0, 0)) (bk_q BK1904)) : gb1905 ≠ gb1904)); replace BK1904 := Aside0.mk (blk_below (g := gb1904) (bk_q BK1904) hb); clear hb hbox hg))
 repeat (go_quiet (first | ((with_reducible refine gate_dst (N := 2) rfl ?_); (try (refine gate_guard (by rfl) ?_; dsimp only)); refine box_q 2 #[.int .i64 a0_0, .int .i64 a0_1, .int .i64 a0_2, .int .i64 a0_3, .int .i64 a0_4, .slice A0_5 l0_5.length c0_5, .int .i64 a0_6, .bool a0_7] 61 ?_; intro gb1904 hg w4 hbox hb; have BK1904 := Aside0.mk (hbox); have GW1904 := Aside0.mk ((by rw [hg]; exact (below_size (bw_q HB)) : w.heap.size ≤ gb1904)); have GE1904 := Aside0.mk ((by rw [hg]; exact (below_size (bw_q HB)) : w.heap.size ≤ gb1904)); replace HB := Aside0.mk (below_step (bw_q HB) hb); clear hb hbox hg) | ((with_reducible refine gate_dst (N := 3) rfl ?_); (try (refine gate_guard (by rfl) ?_; dsimp only)); refine box_q 3 #[.int .i64 a1_0, .int .i64 a1_1, .int .i64 a1_2, .int .i64 a1_3, .int .i64 a1_4, .slice A1_5 l1_5.length c1_5, .int .i64 a1_6, .bool a1_7] 61 ?_; intro gb1905 hg w5 hbox hb; have BK1905 := Aside0.mk (hbox); have GW1905 := Aside0.mk ((by rw [hg]; exact (below_size (bw_q HB)) : w.heap.size ≤ gb1905)); have GE1905 := Aside0.mk ((by rw [hg]; exact (below_size (bw_q HB)) : w.heap.size ≤ gb1905)); replace HB := Aside0.mk (below_step (bw_q HB) hb); have NB1904_1905 := Aside0.mk ((by rw [hg]; exact Nat.ne_of_lt (blk_lt (g := gb1904) (o := .cells #[.int .i64 a0_0, .int .i64 a0_1, .int .i64 a0_2, .int .i64 a0_3, .int .i64 a0_4, .slice A0_5 l0_5.length c0_5, .int .i64 a0_6, .bool a0_7] 61 (0, 0)) (bk_q BK1904)) : gb1904 ≠ gb1905)); have NB1905_1904 := Aside0.mk ((by rw [hg]; exact Nat.ne_of_gt (blk_lt (g := gb1904) (o := .cells #[.int .i64 a0_0, .int .i64 a0_1, .int .i64 a0_2, .int .i64 a0_3, .int .i64 a0_4, .slice A0_5 l0_5.length c0_5, .int .i64 a0_6, .bool a0_7] 61 (0, 0)) (bk_q BK1904)) : gb1905 ≠ gb1904)); replace BK1904 := Aside0.mk (blk_below (g := gb1904) (bk_q BK1904) hb); clear hb hbox hg)); go_upto_region 1 with (first | ((with_reducible refine gate_dst (N := 2) rfl ?_); (try (refine gate_guard (by rfl) ?_; dsimp only)); refine box_q 2 #[.int .i64 a0_0, .int .i64 a0_1, .int .i64 a0_2, .int .i64 a0_3, .int .i64 a0_4, .slice A0_5 l0_5.length c0_5, .int .i64 a0_6, .bool a0_7] 61 ?_; intro gb1904 hg w4 hbox hb; have BK1904 := Aside0.mk (hbox); have GW1904 := Aside0.mk ((by rw [hg]; exact (below_size (bw_q HB)) : w.heap.size ≤ gb1904)); have GE1904 := Aside0.mk ((by rw [hg]; exact (below_size (bw_q HB)) : w.heap.size ≤ gb1904)); replace HB := Aside0.mk (below_step (bw_q HB) hb); clear hb hbox hg) | ((with_reducible refine gate_dst (N := 3) rfl ?_); (try (refine gate_guard (by rfl) ?_; dsimp only)); refine box_q 3 #[.int .i64 a1_0, .int .i64 a1_1, .int .i64 a1_2, .int .i64 a1_3, .int .i64 a1_4, .slice A1_5 l1_5.length c1_5, .int .i64 a1_6, .bool a1_7] 61 ?_; intro gb1905 hg w5 hbox hb; have BK1905 := Aside0.mk (hbox); have GW1905 := Aside0.mk ((by rw [hg]; exact (below_size (bw_q HB)) : w.heap.size ≤ gb1905)); have GE1905 := Aside0.mk ((by rw [hg]; exact (below_size (bw_q HB)) : w.heap.size ≤ gb1905)); replace HB := Aside0.mk (below_step (bw_q HB) hb); have NB1904_1905 := Aside0.mk ((by rw [hg]; exact Nat.ne_of_lt (blk_lt (g := gb1904) (o := .cells #[.int .i64 a0_0, .int .i64 a0_1, .int .i64 a0_2, .int .i64 a0_3, .int .i64 a0_4, .slice A0_5 l0_5.length c0_5, .int .i64 a0_6, .bool a0_7] 61 (0, 0)) (bk_q BK1904)) : gb1904 ≠ gb1905)); have NB1905_1904 := Aside0.mk ((by rw [hg]; exact Nat.ne_of_gt (blk_lt (g := gb1904) (o := .cells #[.int .i64 a0_0, .int .i64 a0_1, .int .i64 a0_2, .int .i64 a0_3, .int .i64 a0_4, .slice A0_5 l0_5.length c0_5, .int .i64 a0_6, .bool a0_7] 61 (0, 0)) (bk_q BK1904)) : gb1905 ≠ gb1904)); replace BK1904 := Aside0.mk (blk_below (g := gb1904) (bk_q BK1904) hb); clear hb hbox hg)))
 (try simp only [Act.put, List.setIfInBounds_toArray, List.set_cons_zero, List.set_cons_succ])
 go_cut [32] (fun v32 wc => ∃ (kq : Nat) (x32_2 : Bool), v32 = .bool x32_2 ∧ Aside0 (spec_SameBody.j0 kq x32_2 a0_0 a0_1 a0_2 a0_3 a0_4 l0_5 a0_6 a0_7 a1_0 a1_1 a1_2 a1_3 a1_4 l1_5 a1_6 a1_7 = some r) ∧ Aside0 (kq ≤ k) ∧ Aside0 (wc.heap[gb1904]? = some (.cells #[.int .i64 a0_0, .int .i64 a0_1, .int .i64 a0_2, .int .i64 a0_3, .int .i64 a0_4, (.slice A0_5 l0_5.length c0_5), .int .i64 a0_6, .bool a0_7] 61 (0, 0))) ∧ Aside0 (wc.heap[gb1905]? = some (.cells #[.int .i64 a1_0, .int .i64 a1_1, .int .i64 a1_2, .int .i64 a1_3, .int .i64 a1_4, (.slice A1_5 l1_5.length c1_5), .int .i64 a1_6, .bool a1_7] 61 (0, 0))) ∧ Aside0 (Below w.heap.size w wc))
 case first =>
  have H := HC3.out
  clear HC3
  replace H := Option.bind_eq_some_iff.mp H
  obtain ⟨t1906, A60, H⟩ := H
  replace H : (if t1906 = true then (if a0_6 = a1_6 then (if (a0_7 != a1_7) = true then (spec_SameBody.j0 k true a0_0 a0_1 a0_2 a0_3 a0_4 l0_5 a0_6 a0_7 a1_0 a1_1 a1_2 a1_3 a1_4 l1_5 a1_6 a1_7) else (spec_SameBody.j0 k ((l0_5.length : Int) != (l1_5.length : Int)) a0_0 a0_1 a0_2 a0_3 a0_4 l0_5 a0_6 a0_7 a1_0 a1_1 a1_2 a1_3 a1_4 l1_5 a1_6 a1_7)) else (spec_SameBody.j0 k true a0_0 a0_1 a0_2 a0_3 a0_4 l0_5 a0_6 a0_7 a1_0 a1_1 a1_2 a1_3 a1_4 l1_5 a1_6 a1_7)) else (spec_SameBody.j0 k true a0_0 a0_1 a0_2 a0_3 a0_4 l0_5 a0_6 a0_7 a1_0 a1_1 a1_2 a1_3 a1_4 l1_5 a1_6 a1_7)) = some r := H
  have A6 := Aside0.mk A60
  clear A60
  by_cases c7 : t1906 = true
  ·subst c7
   have H1 : (if a0_6 = a1_6 then (if (a0_7 != a1_7) = true then (spec_SameBody.j0 k true a0_0 a0_1 a0_2 a0_3 a0_4 l0_5 a0_6 a0_7 a1_0 a1_1 a1_2 a1_3 a1_4 l1_5 a1_6 a1_7) else (spec_SameBody.j0 k ((l0_5.length : Int) != (l1_5.length : Int)) a0_0 a0_1 a0_2 a0_3 a0_4 l0_5 a0_6 a0_7 a1_0 a1_1 a1_2 a1_3 a1_4 l1_5 a1_6 a1_7)) else (spec_SameBody.j0 k true a0_0 a0_1 a0_2 a0_3 a0_4 l0_5 a0_6 a0_7 a1_0 a1_1 a1_2 a1_3 a1_4 l1_5 a1_6 a1_7)) = some r := by rw [if_pos rfl] at H; exact H
   clear H
   have H := H1
   clear H1
   by_cases c8 : a0_6 = a1_6
   ·rw [if_pos c8] at H
    have c8b0 : (a0_6 == a1_6) = true := beq_iff_eq.mpr c8
    have c8b1 : (a0_6 != a1_6) = false := bne_eq_false_iff_eq.mpr c8
    clear c8
    (first | rw [c8b0] | rw [c8b1] | (simp only [i64_w, i32_w]; first | rw [c8b0] | rw [c8b1]) | skip)
    by_cases c9 : (a0_7 != a1_7) = true
    ·rw [if_pos c9] at H
     have c9b0 : (a0_7 != a1_7) = true := c9
     (try (have c9b1 : decide (a0_7 = a1_7) = false := by simpa using c9))
     (try (have c9b2 : (a0_7 == a1_7) = false := by simpa using c9))
     (try (have c9b3 : ¬ (a0_7 = a1_7) := by simpa using c9))
     clear c9
     have H' := Aside0.mk H
     clear H
     have hnb10 := NB1904_1905.out
     have hnc10 := NB1905_1904.out
     obtain ⟨hcz11_0, hcz11_1, hcz11_2, hcz11_3, hcz11_4, hcz11_5, hcz11_6, hcz11_7⟩ := cz8_ BK1904
     obtain ⟨hfz11_0, hfz11_1, hfz11_2, hfz11_3, hfz11_4, hfz11_5, hfz11_6, hfz11_7⟩ := fz8_ BK1904
     obtain ⟨hcz12_0, hcz12_1, hcz12_2, hcz12_3, hcz12_4, hcz12_5, hcz12_6, hcz12_7⟩ := cz8_ BK1905
     obtain ⟨hfz12_0, hfz12_1, hfz12_2, hfz12_3, hfz12_4, hfz12_5, hfz12_6, hfz12_7⟩ := fz8_ BK1905
     go_wp2_with (first | (go_at_call 52; (with_reducible refine (spec_SameKey.calls a0_0 a0_1 a0_2 a0_3 a0_4 _ _ l0_5 a0_6 a0_7 a1_0 a1_1 a1_2 a1_3 a1_4 _ _ l1_5 a1_6 a1_7 true _ ?side1 ?side2 ?side3 ?side4 A6.out).mono ?_); (case side1 => exact cs_q (Kd.C_below HR0_5.out HB.out)); (case side2 => exact HC0_5.out); (case side3 => exact cs_q (Kd.C_below HR1_5.out HB.out)); (case side4 => exact HC1_5.out); rintro e w13 ⟨rfl, hb⟩; replace BK1904 := Aside0.mk (blk_below (g := gb1904) (bk_q BK1904) hb); replace BK1905 := Aside0.mk (blk_below (g := gb1905) (bk_q BK1905) hb); replace HB := Aside0.mk (below_step (bw_q HB) hb); (try clear hb); (try clear hb2); (try clear hk); (try clear hi); have hcz14_0 : w13.cell? ⟨gb1904, 0, none⟩ = some (.int .i64 a0_0) := (blk_cell BK1904.out 0).trans rfl; have hcz14_1 : w13.cell? ⟨gb1904, 1, none⟩ = some (.int .i64 a0_1) := (blk_cell BK1904.out 1).trans rfl; have hcz14_2 : w13.cell? ⟨gb1904, 2, none⟩ = some (.int .i64 a0_2) := (blk_cell BK1904.out 2).trans rfl; have hcz14_3 : w13.cell? ⟨gb1904, 3, none⟩ = some (.int .i64 a0_3) := (blk_cell BK1904.out 3).trans rfl; have hcz14_4 : w13.cell? ⟨gb1904, 4, none⟩ = some (.int .i64 a0_4) := (blk_cell BK1904.out 4).trans rfl; have hcz14_5 : w13.cell? ⟨gb1904, 5, none⟩ = some (.slice A0_5 l0_5.length c0_5) := (blk_cell BK1904.out 5).trans rfl; have hcz14_6 : w13.cell? ⟨gb1904, 6, none⟩ = some (.int .i64 a0_6) := (blk_cell BK1904.out 6).trans rfl; have hcz14_7 : w13.cell? ⟨gb1904, 7, none⟩ = some (.bool a0_7) := (blk_cell BK1904.out 7).trans rfl; have hfz14_0 := blk_frozen BK1904.out 0; have hfz14_1 := blk_frozen BK1904.out 1; have hfz14_2 := blk_frozen BK1904.out 2; have hfz14_3 := blk_frozen BK1904.out 3; have hfz14_4 := blk_frozen BK1904.out 4; have hfz14_5 := blk_frozen BK1904.out 5; have hfz14_6 := blk_frozen BK1904.out 6; have hfz14_7 := blk_frozen BK1904.out 7; have hcz15_0 : w13.cell? ⟨gb1905, 0, none⟩ = some (.int .i64 a1_0) := (blk_cell BK1905.out 0).trans rfl; have hcz15_1 : w13.cell? ⟨gb1905, 1, none⟩ = some (.int .i64 a1_1) := (blk_cell BK1905.out 1).trans rfl; have hcz15_2 : w13.cell? ⟨gb1905, 2, none⟩ = some (.int .i64 a1_2) := (blk_cell BK1905.out 2).trans rfl; have hcz15_3 : w13.cell? ⟨gb1905, 3, none⟩ = some (.int .i64 a1_3) := (blk_cell BK1905.out 3).trans rfl; have hcz15_4 : w13.cell? ⟨gb1905, 4, none⟩ = some (.int .i64 a1_4) := (blk_cell BK1905.out 4).trans rfl; have hcz15_5 : w13.cell? ⟨gb1905, 5, none⟩ = some (.slice A1_5 l1_5.length c1_5) := (blk_cell BK1905.out 5).trans rfl; have hcz15_6 : w13.cell? ⟨gb1905, 6, none⟩ = some (.int .i64 a1_6) := (blk_cell BK1905.out 6).trans rfl; have hcz15_7 : w13.cell? ⟨gb1905, 7, none⟩ = some (.bool a1_7) := (blk_cell BK1905.out 7).trans rfl; have hfz15_0 := blk_frozen BK1905.out 0; have hfz15_1 := blk_frozen BK1905.out 1; have hfz15_2 := blk_frozen BK1905.out 2; have hfz15_3 := blk_frozen BK1905.out 3; have hfz15_4 := blk_frozen BK1905.out 4; have hfz15_5 := blk_frozen BK1905.out 5; have hfz15_6 := blk_frozen BK1905.out 6; have hfz15_7 := blk_frozen BK1905.out 7))
     repeat (go_quiet (first | (go_at_call 52; (with_reducible refine (spec_SameKey.calls a0_0 a0_1 a0_2 a0_3 a0_4 _ _ l0_5 a0_6 a0_7 a1_0 a1_1 a1_2 a1_3 a1_4 _ _ l1_5 a1_6 a1_7 true _ ?side1 ?side2 ?side3 ?side4 A6.out).mono ?_); (case side1 => exact cs_q (Kd.C_below HR0_5.out HB.out)); (case side2 => exact HC0_5.out); (case side3 => exact cs_q (Kd.C_below HR1_5.out HB.out)); (case side4 => exact HC1_5.out); rintro e w13 ⟨rfl, hb⟩; replace BK1904 := Aside0.mk (blk_below (g := gb1904) (bk_q BK1904) hb); replace BK1905 := Aside0.mk (blk_below (g := gb1905) (bk_q BK1905) hb); replace HB := Aside0.mk (below_step (bw_q HB) hb); (try clear hb); (try clear hb2); (try clear hk); (try clear hi); have hcz14_0 : w13.cell? ⟨gb1904, 0, none⟩ = some (.int .i64 a0_0) := (blk_cell BK1904.out 0).trans rfl; have hcz14_1 : w13.cell? ⟨gb1904, 1, none⟩ = some (.int .i64 a0_1) := (blk_cell BK1904.out 1).trans rfl; have hcz14_2 : w13.cell? ⟨gb1904, 2, none⟩ = some (.int .i64 a0_2) := (blk_cell BK1904.out 2).trans rfl; have hcz14_3 : w13.cell? ⟨gb1904, 3, none⟩ = some (.int .i64 a0_3) := (blk_cell BK1904.out 3).trans rfl; have hcz14_4 : w13.cell? ⟨gb1904, 4, none⟩ = some (.int .i64 a0_4) := (blk_cell BK1904.out 4).trans rfl; have hcz14_5 : w13.cell? ⟨gb1904, 5, none⟩ = some (.slice A0_5 l0_5.length c0_5) := (blk_cell BK1904.out 5).trans rfl; have hcz14_6 : w13.cell? ⟨gb1904, 6, none⟩ = some (.int .i64 a0_6) := (blk_cell BK1904.out 6).trans rfl; have hcz14_7 : w13.cell? ⟨gb1904, 7, none⟩ = some (.bool a0_7) := (blk_cell BK1904.out 7).trans rfl; have hfz14_0 := blk_frozen BK1904.out 0; have hfz14_1 := blk_frozen BK1904.out 1; have hfz14_2 := blk_frozen BK1904.out 2; have hfz14_3 := blk_frozen BK1904.out 3; have hfz14_4 := blk_frozen BK1904.out 4; have hfz14_5 := blk_frozen BK1904.out 5; have hfz14_6 := blk_frozen BK1904.out 6; have hfz14_7 := blk_frozen BK1904.out 7; have hcz15_0 : w13.cell? ⟨gb1905, 0, none⟩ = some (.int .i64 a1_0) := (blk_cell BK1905.out 0).trans rfl; have hcz15_1 : w13.cell? ⟨gb1905, 1, none⟩ = some (.int .i64 a1_1) := (blk_cell BK1905.out 1).trans rfl; have hcz15_2 : w13.cell? ⟨gb1905, 2, none⟩ = some (.int .i64 a1_2) := (blk_cell BK1905.out 2).trans rfl; have hcz15_3 : w13.cell? ⟨gb1905, 3, none⟩ = some (.int .i64 a1_3) := (blk_cell BK1905.out 3).trans rfl; have hcz15_4 : w13.cell? ⟨gb1905, 4, none⟩ = some (.int .i64 a1_4) := (blk_cell BK1905.out 4).trans rfl; have hcz15_5 : w13.cell? ⟨gb1905, 5, none⟩ = some (.slice A1_5 l1_5.length c1_5) := (blk_cell BK1905.out 5).trans rfl; have hcz15_6 : w13.cell? ⟨gb1905, 6, none⟩ = some (.int .i64 a1_6) := (blk_cell BK1905.out 6).trans rfl; have hcz15_7 : w13.cell? ⟨gb1905, 7, none⟩ = some (.bool a1_7) := (blk_cell BK1905.out 7).trans rfl; have hfz15_0 := blk_frozen BK1905.out 0; have hfz15_1 := blk_frozen BK1905.out 1; have hfz15_2 := blk_frozen BK1905.out 2; have hfz15_3 := blk_frozen BK1905.out 3; have hfz15_4 := blk_frozen BK1905.out 4; have hfz15_5 := blk_frozen BK1905.out 5; have hfz15_6 := blk_frozen BK1905.out 6; have hfz15_7 := blk_frozen BK1905.out 7)); try go_wp2_with (first | (go_at_call 52; (with_reducible refine (spec_SameKey.calls a0_0 a0_1 a0_2 a0_3 a0_4 _ _ l0_5 a0_6 a0_7 a1_0 a1_1 a1_2 a1_3 a1_4 _ _ l1_5 a1_6 a1_7 true _ ?side1 ?side2 ?side3 ?side4 A6.out).mono ?_); (case side1 => exact cs_q (Kd.C_below HR0_5.out HB.out)); (case side2 => exact HC0_5.out); (case side3 => exact cs_q (Kd.C_below HR1_5.out HB.out)); (case side4 => exact HC1_5.out); rintro e w13 ⟨rfl, hb⟩; replace BK1904 := Aside0.mk (blk_below (g := gb1904) (bk_q BK1904) hb); replace BK1905 := Aside0.mk (blk_below (g := gb1905) (bk_q BK1905) hb); replace HB := Aside0.mk (below_step (bw_q HB) hb); (try clear hb); (try clear hb2); (try clear hk); (try clear hi); have hcz14_0 : w13.cell? ⟨gb1904, 0, none⟩ = some (.int .i64 a0_0) := (blk_cell BK1904.out 0).trans rfl; have hcz14_1 : w13.cell? ⟨gb1904, 1, none⟩ = some (.int .i64 a0_1) := (blk_cell BK1904.out 1).trans rfl; have hcz14_2 : w13.cell? ⟨gb1904, 2, none⟩ = some (.int .i64 a0_2) := (blk_cell BK1904.out 2).trans rfl; have hcz14_3 : w13.cell? ⟨gb1904, 3, none⟩ = some (.int .i64 a0_3) := (blk_cell BK1904.out 3).trans rfl; have hcz14_4 : w13.cell? ⟨gb1904, 4, none⟩ = some (.int .i64 a0_4) := (blk_cell BK1904.out 4).trans rfl; have hcz14_5 : w13.cell? ⟨gb1904, 5, none⟩ = some (.slice A0_5 l0_5.length c0_5) := (blk_cell BK1904.out 5).trans rfl; have hcz14_6 : w13.cell? ⟨gb1904, 6, none⟩ = some (.int .i64 a0_6) := (blk_cell BK1904.out 6).trans rfl; have hcz14_7 : w13.cell? ⟨gb1904, 7, none⟩ = some (.bool a0_7) := (blk_cell BK1904.out 7).trans rfl; have hfz14_0 := blk_frozen BK1904.out 0; have hfz14_1 := blk_frozen BK1904.out 1; have hfz14_2 := blk_frozen BK1904.out 2; have hfz14_3 := blk_frozen BK1904.out 3; have hfz14_4 := blk_frozen BK1904.out 4; have hfz14_5 := blk_frozen BK1904.out 5; have hfz14_6 := blk_frozen BK1904.out 6; have hfz14_7 := blk_frozen BK1904.out 7; have hcz15_0 : w13.cell? ⟨gb1905, 0, none⟩ = some (.int .i64 a1_0) := (blk_cell BK1905.out 0).trans rfl; have hcz15_1 : w13.cell? ⟨gb1905, 1, none⟩ = some (.int .i64 a1_1) := (blk_cell BK1905.out 1).trans rfl; have hcz15_2 : w13.cell? ⟨gb1905, 2, none⟩ = some (.int .i64 a1_2) := (blk_cell BK1905.out 2).trans rfl; have hcz15_3 : w13.cell? ⟨gb1905, 3, none⟩ = some (.int .i64 a1_3) := (blk_cell BK1905.out 3).trans rfl; have hcz15_4 : w13.cell? ⟨gb1905, 4, none⟩ = some (.int .i64 a1_4) := (blk_cell BK1905.out 4).trans rfl; have hcz15_5 : w13.cell? ⟨gb1905, 5, none⟩ = some (.slice A1_5 l1_5.length c1_5) := (blk_cell BK1905.out 5).trans rfl; have hcz15_6 : w13.cell? ⟨gb1905, 6, none⟩ = some (.int .i64 a1_6) := (blk_cell BK1905.out 6).trans rfl; have hcz15_7 : w13.cell? ⟨gb1905, 7, none⟩ = some (.bool a1_7) := (blk_cell BK1905.out 7).trans rfl; have hfz15_0 := blk_frozen BK1905.out 0; have hfz15_1 := blk_frozen BK1905.out 1; have hfz15_2 := blk_frozen BK1905.out 2; have hfz15_3 := blk_frozen BK1905.out 3; have hfz15_4 := blk_frozen BK1905.out 4; have hfz15_5 := blk_frozen BK1905.out 5; have hfz15_6 := blk_frozen BK1905.out 6; have hfz15_7 := blk_frozen BK1905.out 7)))
     go_meet
     case rel => exact ⟨_, (true), (by first | rfl | (simp; done) | (simp [*]; done)), H', ⟨by first | omega | exact Nat.le_refl _⟩, ⟨by refine bz_ ?_; exact BK1904.out⟩, ⟨by refine bz_ ?_; exact BK1905.out⟩, ⟨bw_q HB⟩⟩
    ·rw [if_neg c9] at H
     have c9b0 : (a0_7 != a1_7) = false := by simpa using c9
     (try (have c9b1 : decide (a0_7 = a1_7) = true := by simpa using c9))
     (try (have c9b2 : (a0_7 == a1_7) = true := by simpa using c9))
     clear c9
     have H' := Aside0.mk H
     clear H
     have hnb16 := NB1904_1905.out
     have hnc16 := NB1905_1904.out
     obtain ⟨hcz17_0, hcz17_1, hcz17_2, hcz17_3, hcz17_4, hcz17_5, hcz17_6, hcz17_7⟩ := cz8_ BK1904
     obtain ⟨hfz17_0, hfz17_1, hfz17_2, hfz17_3, hfz17_4, hfz17_5, hfz17_6, hfz17_7⟩ := fz8_ BK1904
     obtain ⟨hcz18_0, hcz18_1, hcz18_2, hcz18_3, hcz18_4, hcz18_5, hcz18_6, hcz18_7⟩ := cz8_ BK1905
     obtain ⟨hfz18_0, hfz18_1, hfz18_2, hfz18_3, hfz18_4, hfz18_5, hfz18_6, hfz18_7⟩ := fz8_ BK1905
     go_wp2_with (first | (go_at_call 52; (with_reducible refine (spec_SameKey.calls a0_0 a0_1 a0_2 a0_3 a0_4 _ _ l0_5 a0_6 a0_7 a1_0 a1_1 a1_2 a1_3 a1_4 _ _ l1_5 a1_6 a1_7 true _ ?side1 ?side2 ?side3 ?side4 A6.out).mono ?_); (case side1 => exact cs_q (Kd.C_below HR0_5.out HB.out)); (case side2 => exact HC0_5.out); (case side3 => exact cs_q (Kd.C_below HR1_5.out HB.out)); (case side4 => exact HC1_5.out); rintro e w19 ⟨rfl, hb⟩; replace BK1904 := Aside0.mk (blk_below (g := gb1904) (bk_q BK1904) hb); replace BK1905 := Aside0.mk (blk_below (g := gb1905) (bk_q BK1905) hb); replace HB := Aside0.mk (below_step (bw_q HB) hb); (try clear hb); (try clear hb2); (try clear hk); (try clear hi); have hcz20_0 : w19.cell? ⟨gb1904, 0, none⟩ = some (.int .i64 a0_0) := (blk_cell BK1904.out 0).trans rfl; have hcz20_1 : w19.cell? ⟨gb1904, 1, none⟩ = some (.int .i64 a0_1) := (blk_cell BK1904.out 1).trans rfl; have hcz20_2 : w19.cell? ⟨gb1904, 2, none⟩ = some (.int .i64 a0_2) := (blk_cell BK1904.out 2).trans rfl; have hcz20_3 : w19.cell? ⟨gb1904, 3, none⟩ = some (.int .i64 a0_3) := (blk_cell BK1904.out 3).trans rfl; have hcz20_4 : w19.cell? ⟨gb1904, 4, none⟩ = some (.int .i64 a0_4) := (blk_cell BK1904.out 4).trans rfl; have hcz20_5 : w19.cell? ⟨gb1904, 5, none⟩ = some (.slice A0_5 l0_5.length c0_5) := (blk_cell BK1904.out 5).trans rfl; have hcz20_6 : w19.cell? ⟨gb1904, 6, none⟩ = some (.int .i64 a0_6) := (blk_cell BK1904.out 6).trans rfl; have hcz20_7 : w19.cell? ⟨gb1904, 7, none⟩ = some (.bool a0_7) := (blk_cell BK1904.out 7).trans rfl; have hfz20_0 := blk_frozen BK1904.out 0; have hfz20_1 := blk_frozen BK1904.out 1; have hfz20_2 := blk_frozen BK1904.out 2; have hfz20_3 := blk_frozen BK1904.out 3; have hfz20_4 := blk_frozen BK1904.out 4; have hfz20_5 := blk_frozen BK1904.out 5; have hfz20_6 := blk_frozen BK1904.out 6; have hfz20_7 := blk_frozen BK1904.out 7; have hcz21_0 : w19.cell? ⟨gb1905, 0, none⟩ = some (.int .i64 a1_0) := (blk_cell BK1905.out 0).trans rfl; have hcz21_1 : w19.cell? ⟨gb1905, 1, none⟩ = some (.int .i64 a1_1) := (blk_cell BK1905.out 1).trans rfl; have hcz21_2 : w19.cell? ⟨gb1905, 2, none⟩ = some (.int .i64 a1_2) := (blk_cell BK1905.out 2).trans rfl; have hcz21_3 : w19.cell? ⟨gb1905, 3, none⟩ = some (.int .i64 a1_3) := (blk_cell BK1905.out 3).trans rfl; have hcz21_4 : w19.cell? ⟨gb1905, 4, none⟩ = some (.int .i64 a1_4) := (blk_cell BK1905.out 4).trans rfl; have hcz21_5 : w19.cell? ⟨gb1905, 5, none⟩ = some (.slice A1_5 l1_5.length c1_5) := (blk_cell BK1905.out 5).trans rfl; have hcz21_6 : w19.cell? ⟨gb1905, 6, none⟩ = some (.int .i64 a1_6) := (blk_cell BK1905.out 6).trans rfl; have hcz21_7 : w19.cell? ⟨gb1905, 7, none⟩ = some (.bool a1_7) := (blk_cell BK1905.out 7).trans rfl; have hfz21_0 := blk_frozen BK1905.out 0; have hfz21_1 := blk_frozen BK1905.out 1; have hfz21_2 := blk_frozen BK1905.out 2; have hfz21_3 := blk_frozen BK1905.out 3; have hfz21_4 := blk_frozen BK1905.out 4; have hfz21_5 := blk_frozen BK1905.out 5; have hfz21_6 := blk_frozen BK1905.out 6; have hfz21_7 := blk_frozen BK1905.out 7))
     repeat (go_quiet (first | (go_at_call 52; (with_reducible refine (spec_SameKey.calls a0_0 a0_1 a0_2 a0_3 a0_4 _ _ l0_5 a0_6 a0_7 a1_0 a1_1 a1_2 a1_3 a1_4 _ _ l1_5 a1_6 a1_7 true _ ?side1 ?side2 ?side3 ?side4 A6.out).mono ?_); (case side1 => exact cs_q (Kd.C_below HR0_5.out HB.out)); (case side2 => exact HC0_5.out); (case side3 => exact cs_q (Kd.C_below HR1_5.out HB.out)); (case side4 => exact HC1_5.out); rintro e w19 ⟨rfl, hb⟩; replace BK1904 := Aside0.mk (blk_below (g := gb1904) (bk_q BK1904) hb); replace BK1905 := Aside0.mk (blk_below (g := gb1905) (bk_q BK1905) hb); replace HB := Aside0.mk (below_step (bw_q HB) hb); (try clear hb); (try clear hb2); (try clear hk); (try clear hi); have hcz20_0 : w19.cell? ⟨gb1904, 0, none⟩ = some (.int .i64 a0_0) := (blk_cell BK1904.out 0).trans rfl; have hcz20_1 : w19.cell? ⟨gb1904, 1, none⟩ = some (.int .i64 a0_1) := (blk_cell BK1904.out 1).trans rfl; have hcz20_2 : w19.cell? ⟨gb1904, 2, none⟩ = some (.int .i64 a0_2) := (blk_cell BK1904.out 2).trans rfl; have hcz20_3 : w19.cell? ⟨gb1904, 3, none⟩ = some (.int .i64 a0_3) := (blk_cell BK1904.out 3).trans rfl; have hcz20_4 : w19.cell? ⟨gb1904, 4, none⟩ = some (.int .i64 a0_4) := (blk_cell BK1904.out 4).trans rfl; have hcz20_5 : w19.cell? ⟨gb1904, 5, none⟩ = some (.slice A0_5 l0_5.length c0_5) := (blk_cell BK1904.out 5).trans rfl; have hcz20_6 : w19.cell? ⟨gb1904, 6, none⟩ = some (.int .i64 a0_6) := (blk_cell BK1904.out 6).trans rfl; have hcz20_7 : w19.cell? ⟨gb1904, 7, none⟩ = some (.bool a0_7) := (blk_cell BK1904.out 7).trans rfl; have hfz20_0 := blk_frozen BK1904.out 0; have hfz20_1 := blk_frozen BK1904.out 1; have hfz20_2 := blk_frozen BK1904.out 2; have hfz20_3 := blk_frozen BK1904.out 3; have hfz20_4 := blk_frozen BK1904.out 4; have hfz20_5 := blk_frozen BK1904.out 5; have hfz20_6 := blk_frozen BK1904.out 6; have hfz20_7 := blk_frozen BK1904.out 7; have hcz21_0 : w19.cell? ⟨gb1905, 0, none⟩ = some (.int .i64 a1_0) := (blk_cell BK1905.out 0).trans rfl; have hcz21_1 : w19.cell? ⟨gb1905, 1, none⟩ = some (.int .i64 a1_1) := (blk_cell BK1905.out 1).trans rfl; have hcz21_2 : w19.cell? ⟨gb1905, 2, none⟩ = some (.int .i64 a1_2) := (blk_cell BK1905.out 2).trans rfl; have hcz21_3 : w19.cell? ⟨gb1905, 3, none⟩ = some (.int .i64 a1_3) := (blk_cell BK1905.out 3).trans rfl; have hcz21_4 : w19.cell? ⟨gb1905, 4, none⟩ = some (.int .i64 a1_4) := (blk_cell BK1905.out 4).trans rfl; have hcz21_5 : w19.cell? ⟨gb1905, 5, none⟩ = some (.slice A1_5 l1_5.length c1_5) := (blk_cell BK1905.out 5).trans rfl; have hcz21_6 : w19.cell? ⟨gb1905, 6, none⟩ = some (.int .i64 a1_6) := (blk_cell BK1905.out 6).trans rfl; have hcz21_7 : w19.cell? ⟨gb1905, 7, none⟩ = some (.bool a1_7) := (blk_cell BK1905.out 7).trans rfl; have hfz21_0 := blk_frozen BK1905.out 0; have hfz21_1 := blk_frozen BK1905.out 1; have hfz21_2 := blk_frozen BK1905.out 2; have hfz21_3 := blk_frozen BK1905.out 3; have hfz21_4 := blk_frozen BK1905.out 4; have hfz21_5 := blk_frozen BK1905.out 5; have hfz21_6 := blk_frozen BK1905.out 6; have hfz21_7 := blk_frozen BK1905.out 7)); try go_wp2_with (first | (go_at_call 52; (with_reducible refine (spec_SameKey.calls a0_0 a0_1 a0_2 a0_3 a0_4 _ _ l0_5 a0_6 a0_7 a1_0 a1_1 a1_2 a1_3 a1_4 _ _ l1_5 a1_6 a1_7 true _ ?side1 ?side2 ?side3 ?side4 A6.out).mono ?_); (case side1 => exact cs_q (Kd.C_below HR0_5.out HB.out)); (case side2 => exact HC0_5.out); (case side3 => exact cs_q (Kd.C_below HR1_5.out HB.out)); (case side4 => exact HC1_5.out); rintro e w19 ⟨rfl, hb⟩; replace BK1904 := Aside0.mk (blk_below (g := gb1904) (bk_q BK1904) hb); replace BK1905 := Aside0.mk (blk_below (g := gb1905) (bk_q BK1905) hb); replace HB := Aside0.mk (below_step (bw_q HB) hb); (try clear hb); (try clear hb2); (try clear hk); (try clear hi); have hcz20_0 : w19.cell? ⟨gb1904, 0, none⟩ = some (.int .i64 a0_0) := (blk_cell BK1904.out 0).trans rfl; have hcz20_1 : w19.cell? ⟨gb1904, 1, none⟩ = some (.int .i64 a0_1) := (blk_cell BK1904.out 1).trans rfl; have hcz20_2 : w19.cell? ⟨gb1904, 2, none⟩ = some (.int .i64 a0_2) := (blk_cell BK1904.out 2).trans rfl; have hcz20_3 : w19.cell? ⟨gb1904, 3, none⟩ = some (.int .i64 a0_3) := (blk_cell BK1904.out 3).trans rfl; have hcz20_4 : w19.cell? ⟨gb1904, 4, none⟩ = some (.int .i64 a0_4) := (blk_cell BK1904.out 4).trans rfl; have hcz20_5 : w19.cell? ⟨gb1904, 5, none⟩ = some (.slice A0_5 l0_5.length c0_5) := (blk_cell BK1904.out 5).trans rfl; have hcz20_6 : w19.cell? ⟨gb1904, 6, none⟩ = some (.int .i64 a0_6) := (blk_cell BK1904.out 6).trans rfl; have hcz20_7 : w19.cell? ⟨gb1904, 7, none⟩ = some (.bool a0_7) := (blk_cell BK1904.out 7).trans rfl; have hfz20_0 := blk_frozen BK1904.out 0; have hfz20_1 := blk_frozen BK1904.out 1; have hfz20_2 := blk_frozen BK1904.out 2; have hfz20_3 := blk_frozen BK1904.out 3; have hfz20_4 := blk_frozen BK1904.out 4; have hfz20_5 := blk_frozen BK1904.out 5; have hfz20_6 := blk_frozen BK1904.out 6; have hfz20_7 := blk_frozen BK1904.out 7; have hcz21_0 : w19.cell? ⟨gb1905, 0, none⟩ = some (.int .i64 a1_0) := (blk_cell BK1905.out 0).trans rfl; have hcz21_1 : w19.cell? ⟨gb1905, 1, none⟩ = some (.int .i64 a1_1) := (blk_cell BK1905.out 1).trans rfl; have hcz21_2 : w19.cell? ⟨gb1905, 2, none⟩ = some (.int .i64 a1_2) := (blk_cell BK1905.out 2).trans rfl; have hcz21_3 : w19.cell? ⟨gb1905, 3, none⟩ = some (.int .i64 a1_3) := (blk_cell BK1905.out 3).trans rfl; have hcz21_4 : w19.cell? ⟨gb1905, 4, none⟩ = some (.int .i64 a1_4) := (blk_cell BK1905.out 4).trans rfl; have hcz21_5 : w19.cell? ⟨gb1905, 5, none⟩ = some (.slice A1_5 l1_5.length c1_5) := (blk_cell BK1905.out 5).trans rfl; have hcz21_6 : w19.cell? ⟨gb1905, 6, none⟩ = some (.int .i64 a1_6) := (blk_cell BK1905.out 6).trans rfl; have hcz21_7 : w19.cell? ⟨gb1905, 7, none⟩ = some (.bool a1_7) := (blk_cell BK1905.out 7).trans rfl; have hfz21_0 := blk_frozen BK1905.out 0; have hfz21_1 := blk_frozen BK1905.out 1; have hfz21_2 := blk_frozen BK1905.out 2; have hfz21_3 := blk_frozen BK1905.out 3; have hfz21_4 := blk_frozen BK1905.out 4; have hfz21_5 := blk_frozen BK1905.out 5; have hfz21_6 := blk_frozen BK1905.out 6; have hfz21_7 := blk_frozen BK1905.out 7)))
     go_meet
     case rel => exact ⟨_, (((l0_5.length : Int) != (l1_5.length : Int))), (by first | rfl | (simp; done) | (simp [*]; done)), H', ⟨by first | omega | exact Nat.le_refl _⟩, ⟨by refine bz_ ?_; exact BK1904.out⟩, ⟨by refine bz_ ?_; exact BK1905.out⟩, ⟨bw_q HB⟩⟩
   ·rw [if_neg c8] at H
    have c8b0 : (a0_6 == a1_6) = false := beq_eq_false_iff_ne.mpr c8
    have c8b1 : (a0_6 != a1_6) = true := bne_iff_ne.mpr c8
    (first | rw [c8b0] | rw [c8b1] | (simp only [i64_w, i32_w]; first | rw [c8b0] | rw [c8b1]) | skip)
    have H' := Aside0.mk H
    clear H
    have hnb22 := NB1904_1905.out
    have hnc22 := NB1905_1904.out
    obtain ⟨hcz23_0, hcz23_1, hcz23_2, hcz23_3, hcz23_4, hcz23_5, hcz23_6, hcz23_7⟩ := cz8_ BK1904
    obtain ⟨hfz23_0, hfz23_1, hfz23_2, hfz23_3, hfz23_4, hfz23_5, hfz23_6, hfz23_7⟩ := fz8_ BK1904
    obtain ⟨hcz24_0, hcz24_1, hcz24_2, hcz24_3, hcz24_4, hcz24_5, hcz24_6, hcz24_7⟩ := cz8_ BK1905
    obtain ⟨hfz24_0, hfz24_1, hfz24_2, hfz24_3, hfz24_4, hfz24_5, hfz24_6, hfz24_7⟩ := fz8_ BK1905
    go_wp2_with (first | (go_at_call 52; (with_reducible refine (spec_SameKey.calls a0_0 a0_1 a0_2 a0_3 a0_4 _ _ l0_5 a0_6 a0_7 a1_0 a1_1 a1_2 a1_3 a1_4 _ _ l1_5 a1_6 a1_7 true _ ?side1 ?side2 ?side3 ?side4 A6.out).mono ?_); (case side1 => exact cs_q (Kd.C_below HR0_5.out HB.out)); (case side2 => exact HC0_5.out); (case side3 => exact cs_q (Kd.C_below HR1_5.out HB.out)); (case side4 => exact HC1_5.out); rintro e w25 ⟨rfl, hb⟩; replace BK1904 := Aside0.mk (blk_below (g := gb1904) (bk_q BK1904) hb); replace BK1905 := Aside0.mk (blk_below (g := gb1905) (bk_q BK1905) hb); replace HB := Aside0.mk (below_step (bw_q HB) hb); (try clear hb); (try clear hb2); (try clear hk); (try clear hi); have hcz26_0 : w25.cell? ⟨gb1904, 0, none⟩ = some (.int .i64 a0_0) := (blk_cell BK1904.out 0).trans rfl; have hcz26_1 : w25.cell? ⟨gb1904, 1, none⟩ = some (.int .i64 a0_1) := (blk_cell BK1904.out 1).trans rfl; have hcz26_2 : w25.cell? ⟨gb1904, 2, none⟩ = some (.int .i64 a0_2) := (blk_cell BK1904.out 2).trans rfl; have hcz26_3 : w25.cell? ⟨gb1904, 3, none⟩ = some (.int .i64 a0_3) := (blk_cell BK1904.out 3).trans rfl; have hcz26_4 : w25.cell? ⟨gb1904, 4, none⟩ = some (.int .i64 a0_4) := (blk_cell BK1904.out 4).trans rfl; have hcz26_5 : w25.cell? ⟨gb1904, 5, none⟩ = some (.slice A0_5 l0_5.length c0_5) := (blk_cell BK1904.out 5).trans rfl; have hcz26_6 : w25.cell? ⟨gb1904, 6, none⟩ = some (.int .i64 a0_6) := (blk_cell BK1904.out 6).trans rfl; have hcz26_7 : w25.cell? ⟨gb1904, 7, none⟩ = some (.bool a0_7) := (blk_cell BK1904.out 7).trans rfl; have hfz26_0 := blk_frozen BK1904.out 0; have hfz26_1 := blk_frozen BK1904.out 1; have hfz26_2 := blk_frozen BK1904.out 2; have hfz26_3 := blk_frozen BK1904.out 3; have hfz26_4 := blk_frozen BK1904.out 4; have hfz26_5 := blk_frozen BK1904.out 5; have hfz26_6 := blk_frozen BK1904.out 6; have hfz26_7 := blk_frozen BK1904.out 7; have hcz27_0 : w25.cell? ⟨gb1905, 0, none⟩ = some (.int .i64 a1_0) := (blk_cell BK1905.out 0).trans rfl; have hcz27_1 : w25.cell? ⟨gb1905, 1, none⟩ = some (.int .i64 a1_1) := (blk_cell BK1905.out 1).trans rfl; have hcz27_2 : w25.cell? ⟨gb1905, 2, none⟩ = some (.int .i64 a1_2) := (blk_cell BK1905.out 2).trans rfl; have hcz27_3 : w25.cell? ⟨gb1905, 3, none⟩ = some (.int .i64 a1_3) := (blk_cell BK1905.out 3).trans rfl; have hcz27_4 : w25.cell? ⟨gb1905, 4, none⟩ = some (.int .i64 a1_4) := (blk_cell BK1905.out 4).trans rfl; have hcz27_5 : w25.cell? ⟨gb1905, 5, none⟩ = some (.slice A1_5 l1_5.length c1_5) := (blk_cell BK1905.out 5).trans rfl; have hcz27_6 : w25.cell? ⟨gb1905, 6, none⟩ = some (.int .i64 a1_6) := (blk_cell BK1905.out 6).trans rfl; have hcz27_7 : w25.cell? ⟨gb1905, 7, none⟩ = some (.bool a1_7) := (blk_cell BK1905.out 7).trans rfl; have hfz27_0 := blk_frozen BK1905.out 0; have hfz27_1 := blk_frozen BK1905.out 1; have hfz27_2 := blk_frozen BK1905.out 2; have hfz27_3 := blk_frozen BK1905.out 3; have hfz27_4 := blk_frozen BK1905.out 4; have hfz27_5 := blk_frozen BK1905.out 5; have hfz27_6 := blk_frozen BK1905.out 6; have hfz27_7 := blk_frozen BK1905.out 7))
    repeat (go_quiet (first | (go_at_call 52; (with_reducible refine (spec_SameKey.calls a0_0 a0_1 a0_2 a0_3 a0_4 _ _ l0_5 a0_6 a0_7 a1_0 a1_1 a1_2 a1_3 a1_4 _ _ l1_5 a1_6 a1_7 true _ ?side1 ?side2 ?side3 ?side4 A6.out).mono ?_); (case side1 => exact cs_q (Kd.C_below HR0_5.out HB.out)); (case side2 => exact HC0_5.out); (case side3 => exact cs_q (Kd.C_below HR1_5.out HB.out)); (case side4 => exact HC1_5.out); rintro e w25 ⟨rfl, hb⟩; replace BK1904 := Aside0.mk (blk_below (g := gb1904) (bk_q BK1904) hb); replace BK1905 := Aside0.mk (blk_below (g := gb1905) (bk_q BK1905) hb); replace HB := Aside0.mk (below_step (bw_q HB) hb); (try clear hb); (try clear hb2); (try clear hk); (try clear hi); have hcz26_0 : w25.cell? ⟨gb1904, 0, none⟩ = some (.int .i64 a0_0) := (blk_cell BK1904.out 0).trans rfl; have hcz26_1 : w25.cell? ⟨gb1904, 1, none⟩ = some (.int .i64 a0_1) := (blk_cell BK1904.out 1).trans rfl; have hcz26_2 : w25.cell? ⟨gb1904, 2, none⟩ = some (.int .i64 a0_2) := (blk_cell BK1904.out 2).trans rfl; have hcz26_3 : w25.cell? ⟨gb1904, 3, none⟩ = some (.int .i64 a0_3) := (blk_cell BK1904.out 3).trans rfl; have hcz26_4 : w25.cell? ⟨gb1904, 4, none⟩ = some (.int .i64 a0_4) := (blk_cell BK1904.out 4).trans rfl; have hcz26_5 : w25.cell? ⟨gb1904, 5, none⟩ = some (.slice A0_5 l0_5.length c0_5) := (blk_cell BK1904.out 5).trans rfl; have hcz26_6 : w25.cell? ⟨gb1904, 6, none⟩ = some (.int .i64 a0_6) := (blk_cell BK1904.out 6).trans rfl; have hcz26_7 : w25.cell? ⟨gb1904, 7, none⟩ = some (.bool a0_7) := (blk_cell BK1904.out 7).trans rfl; have hfz26_0 := blk_frozen BK1904.out 0; have hfz26_1 := blk_frozen BK1904.out 1; have hfz26_2 := blk_frozen BK1904.out 2; have hfz26_3 := blk_frozen BK1904.out 3; have hfz26_4 := blk_frozen BK1904.out 4; have hfz26_5 := blk_frozen BK1904.out 5; have hfz26_6 := blk_frozen BK1904.out 6; have hfz26_7 := blk_frozen BK1904.out 7; have hcz27_0 : w25.cell? ⟨gb1905, 0, none⟩ = some (.int .i64 a1_0) := (blk_cell BK1905.out 0).trans rfl; have hcz27_1 : w25.cell? ⟨gb1905, 1, none⟩ = some (.int .i64 a1_1) := (blk_cell BK1905.out 1).trans rfl; have hcz27_2 : w25.cell? ⟨gb1905, 2, none⟩ = some (.int .i64 a1_2) := (blk_cell BK1905.out 2).trans rfl; have hcz27_3 : w25.cell? ⟨gb1905, 3, none⟩ = some (.int .i64 a1_3) := (blk_cell BK1905.out 3).trans rfl; have hcz27_4 : w25.cell? ⟨gb1905, 4, none⟩ = some (.int .i64 a1_4) := (blk_cell BK1905.out 4).trans rfl; have hcz27_5 : w25.cell? ⟨gb1905, 5, none⟩ = some (.slice A1_5 l1_5.length c1_5) := (blk_cell BK1905.out 5).trans rfl; have hcz27_6 : w25.cell? ⟨gb1905, 6, none⟩ = some (.int .i64 a1_6) := (blk_cell BK1905.out 6).trans rfl; have hcz27_7 : w25.cell? ⟨gb1905, 7, none⟩ = some (.bool a1_7) := (blk_cell BK1905.out 7).trans rfl; have hfz27_0 := blk_frozen BK1905.out 0; have hfz27_1 := blk_frozen BK1905.out 1; have hfz27_2 := blk_frozen BK1905.out 2; have hfz27_3 := blk_frozen BK1905.out 3; have hfz27_4 := blk_frozen BK1905.out 4; have hfz27_5 := blk_frozen BK1905.out 5; have hfz27_6 := blk_frozen BK1905.out 6; have hfz27_7 := blk_frozen BK1905.out 7)); try go_wp2_with (first | (go_at_call 52; (with_reducible refine (spec_SameKey.calls a0_0 a0_1 a0_2 a0_3 a0_4 _ _ l0_5 a0_6 a0_7 a1_0 a1_1 a1_2 a1_3 a1_4 _ _ l1_5 a1_6 a1_7 true _ ?side1 ?side2 ?side3 ?side4 A6.out).mono ?_); (case side1 => exact cs_q (Kd.C_below HR0_5.out HB.out)); (case side2 => exact HC0_5.out); (case side3 => exact cs_q (Kd.C_below HR1_5.out HB.out)); (case side4 => exact HC1_5.out); rintro e w25 ⟨rfl, hb⟩; replace BK1904 := Aside0.mk (blk_below (g := gb1904) (bk_q BK1904) hb); replace BK1905 := Aside0.mk (blk_below (g := gb1905) (bk_q BK1905) hb); replace HB := Aside0.mk (below_step (bw_q HB) hb); (try clear hb); (try clear hb2); (try clear hk); (try clear hi); have hcz26_0 : w25.cell? ⟨gb1904, 0, none⟩ = some (.int .i64 a0_0) := (blk_cell BK1904.out 0).trans rfl; have hcz26_1 : w25.cell? ⟨gb1904, 1, none⟩ = some (.int .i64 a0_1) := (blk_cell BK1904.out 1).trans rfl; have hcz26_2 : w25.cell? ⟨gb1904, 2, none⟩ = some (.int .i64 a0_2) := (blk_cell BK1904.out 2).trans rfl; have hcz26_3 : w25.cell? ⟨gb1904, 3, none⟩ = some (.int .i64 a0_3) := (blk_cell BK1904.out 3).trans rfl; have hcz26_4 : w25.cell? ⟨gb1904, 4, none⟩ = some (.int .i64 a0_4) := (blk_cell BK1904.out 4).trans rfl; have hcz26_5 : w25.cell? ⟨gb1904, 5, none⟩ = some (.slice A0_5 l0_5.length c0_5) := (blk_cell BK1904.out 5).trans rfl; have hcz26_6 : w25.cell? ⟨gb1904, 6, none⟩ = some (.int .i64 a0_6) := (blk_cell BK1904.out 6).trans rfl; have hcz26_7 : w25.cell? ⟨gb1904, 7, none⟩ = some (.bool a0_7) := (blk_cell BK1904.out 7).trans rfl; have hfz26_0 := blk_frozen BK1904.out 0; have hfz26_1 := blk_frozen BK1904.out 1; have hfz26_2 := blk_frozen BK1904.out 2; have hfz26_3 := blk_frozen BK1904.out 3; have hfz26_4 := blk_frozen BK1904.out 4; have hfz26_5 := blk_frozen BK1904.out 5; have hfz26_6 := blk_frozen BK1904.out 6; have hfz26_7 := blk_frozen BK1904.out 7; have hcz27_0 : w25.cell? ⟨gb1905, 0, none⟩ = some (.int .i64 a1_0) := (blk_cell BK1905.out 0).trans rfl; have hcz27_1 : w25.cell? ⟨gb1905, 1, none⟩ = some (.int .i64 a1_1) := (blk_cell BK1905.out 1).trans rfl; have hcz27_2 : w25.cell? ⟨gb1905, 2, none⟩ = some (.int .i64 a1_2) := (blk_cell BK1905.out 2).trans rfl; have hcz27_3 : w25.cell? ⟨gb1905, 3, none⟩ = some (.int .i64 a1_3) := (blk_cell BK1905.out 3).trans rfl; have hcz27_4 : w25.cell? ⟨gb1905, 4, none⟩ = some (.int .i64 a1_4) := (blk_cell BK1905.out 4).trans rfl; have hcz27_5 : w25.cell? ⟨gb1905, 5, none⟩ = some (.slice A1_5 l1_5.length c1_5) := (blk_cell BK1905.out 5).trans rfl; have hcz27_6 : w25.cell? ⟨gb1905, 6, none⟩ = some (.int .i64 a1_6) := (blk_cell BK1905.out 6).trans rfl; have hcz27_7 : w25.cell? ⟨gb1905, 7, none⟩ = some (.bool a1_7) := (blk_cell BK1905.out 7).trans rfl; have hfz27_0 := blk_frozen BK1905.out 0; have hfz27_1 := blk_frozen BK1905.out 1; have hfz27_2 := blk_frozen BK1905.out 2; have hfz27_3 := blk_frozen BK1905.out 3; have hfz27_4 := blk_frozen BK1905.out 4; have hfz27_5 := blk_frozen BK1905.out 5; have hfz27_6 := blk_frozen BK1905.out 6; have hfz27_7 := blk_frozen BK1905.out 7)))
    go_meet
    case rel => exact ⟨_, (true), (by first | rfl | (simp; done) | (simp [*]; done)), H', ⟨by first | omega | exact Nat.le_refl _⟩, ⟨by refine bz_ ?_; exact BK1904.out⟩, ⟨by refine bz_ ?_; exact BK1905.out⟩, ⟨bw_q HB⟩⟩
  ·replace c7 := Bool.eq_false_iff.mpr c7
   subst c7
   have H1 : (spec_SameBody.j0 k true a0_0 a0_1 a0_2 a0_3 a0_4 l0_5 a0_6 a0_7 a1_0 a1_1 a1_2 a1_3 a1_4 l1_5 a1_6 a1_7) = some r := by rw [if_neg (show ¬ (false = true) by decide)] at H; exact H
   clear H
   have H := H1
   clear H1
   have H' := Aside0.mk H
   clear H
   have hnb28 := NB1904_1905.out
   have hnc28 := NB1905_1904.out
   obtain ⟨hcz29_0, hcz29_1, hcz29_2, hcz29_3, hcz29_4, hcz29_5, hcz29_6, hcz29_7⟩ := cz8_ BK1904
   obtain ⟨hfz29_0, hfz29_1, hfz29_2, hfz29_3, hfz29_4, hfz29_5, hfz29_6, hfz29_7⟩ := fz8_ BK1904
   obtain ⟨hcz30_0, hcz30_1, hcz30_2, hcz30_3, hcz30_4, hcz30_5, hcz30_6, hcz30_7⟩ := cz8_ BK1905
   obtain ⟨hfz30_0, hfz30_1, hfz30_2, hfz30_3, hfz30_4, hfz30_5, hfz30_6, hfz30_7⟩ := fz8_ BK1905
   go_wp2_with (first | (go_at_call 52; (with_reducible refine (spec_SameKey.calls a0_0 a0_1 a0_2 a0_3 a0_4 _ _ l0_5 a0_6 a0_7 a1_0 a1_1 a1_2 a1_3 a1_4 _ _ l1_5 a1_6 a1_7 false _ ?side1 ?side2 ?side3 ?side4 A6.out).mono ?_); (case side1 => exact cs_q (Kd.C_below HR0_5.out HB.out)); (case side2 => exact HC0_5.out); (case side3 => exact cs_q (Kd.C_below HR1_5.out HB.out)); (case side4 => exact HC1_5.out); rintro e w31 ⟨rfl, hb⟩; replace BK1904 := Aside0.mk (blk_below (g := gb1904) (bk_q BK1904) hb); replace BK1905 := Aside0.mk (blk_below (g := gb1905) (bk_q BK1905) hb); replace HB := Aside0.mk (below_step (bw_q HB) hb); (try clear hb); (try clear hb2); (try clear hk); (try clear hi)))
   repeat (go_quiet (first | (go_at_call 52; (with_reducible refine (spec_SameKey.calls a0_0 a0_1 a0_2 a0_3 a0_4 _ _ l0_5 a0_6 a0_7 a1_0 a1_1 a1_2 a1_3 a1_4 _ _ l1_5 a1_6 a1_7 false _ ?side1 ?side2 ?side3 ?side4 A6.out).mono ?_); (case side1 => exact cs_q (Kd.C_below HR0_5.out HB.out)); (case side2 => exact HC0_5.out); (case side3 => exact cs_q (Kd.C_below HR1_5.out HB.out)); (case side4 => exact HC1_5.out); rintro e w31 ⟨rfl, hb⟩; replace BK1904 := Aside0.mk (blk_below (g := gb1904) (bk_q BK1904) hb); replace BK1905 := Aside0.mk (blk_below (g := gb1905) (bk_q BK1905) hb); replace HB := Aside0.mk (below_step (bw_q HB) hb); (try clear hb); (try clear hb2); (try clear hk); (try clear hi))); try go_wp2_with (first | (go_at_call 52; (with_reducible refine (spec_SameKey.calls a0_0 a0_1 a0_2 a0_3 a0_4 _ _ l0_5 a0_6 a0_7 a1_0 a1_1 a1_2 a1_3 a1_4 _ _ l1_5 a1_6 a1_7 false _ ?side1 ?side2 ?side3 ?side4 A6.out).mono ?_); (case side1 => exact cs_q (Kd.C_below HR0_5.out HB.out)); (case side2 => exact HC0_5.out); (case side3 => exact cs_q (Kd.C_below HR1_5.out HB.out)); (case side4 => exact HC1_5.out); rintro e w31 ⟨rfl, hb⟩; replace BK1904 := Aside0.mk (blk_below (g := gb1904) (bk_q BK1904) hb); replace BK1905 := Aside0.mk (blk_below (g := gb1905) (bk_q BK1905) hb); replace HB := Aside0.mk (below_step (bw_q HB) hb); (try clear hb); (try clear hb2); (try clear hk); (try clear hi))))
   go_meet
   case rel => exact ⟨_, (true), (by first | rfl | (simp; done) | (simp [*]; done)), H', ⟨by first | omega | exact Nat.le_refl _⟩, ⟨by refine bz_ ?_; exact BK1904.out⟩, ⟨by refine bz_ ?_; exact BK1905.out⟩, ⟨bw_q HB⟩⟩
 case rest =>
  clear HC3
  try clear c1
  try clear c2
  try clear p2
  try clear c7
  try clear c8
  try clear c8b0
  try clear c8b1
  try clear c9
  try clear c9b0
  try clear c9b1
  try clear c9b2
  try clear c10
  try clear c16
  try clear c22
  try clear c28
  try clear hcz11_0
  try clear hcz11_1
  try clear hcz11_2
  try clear hcz11_3
  try clear hcz11_4
  try clear hcz11_5
  try clear hcz11_6
  try clear hcz11_7
  try clear hcz12_0
  try clear hcz12_1
  try clear hcz12_2
  try clear hcz12_3
  try clear hcz12_4
  try clear hcz12_5
  try clear hcz12_6
  try clear hcz12_7
  try clear hcz14_0
  try clear hcz14_1
  try clear hcz14_2
  try clear hcz14_3
  try clear hcz14_4
  try clear hcz14_5
  try clear hcz14_6
  try clear hcz14_7
  try clear hcz15_0
  try clear hcz15_1
  try clear hcz15_2
  try clear hcz15_3
  try clear hcz15_4
  try clear hcz15_5
  try clear hcz15_6
  try clear hcz15_7
  try clear hcz17_0
  try clear hcz17_1
  try clear hcz17_2
  try clear hcz17_3
  try clear hcz17_4
  try clear hcz17_5
  try clear hcz17_6
  try clear hcz17_7
  try clear hcz18_0
  try clear hcz18_1
  try clear hcz18_2
  try clear hcz18_3
  try clear hcz18_4
  try clear hcz18_5
  try clear hcz18_6
  try clear hcz18_7
  try clear hcz20_0
  try clear hcz20_1
  try clear hcz20_2
  try clear hcz20_3
  try clear hcz20_4
  try clear hcz20_5
  try clear hcz20_6
  try clear hcz20_7
  try clear hcz21_0
  try clear hcz21_1
  try clear hcz21_2
  try clear hcz21_3
  try clear hcz21_4
  try clear hcz21_5
  try clear hcz21_6
  try clear hcz21_7
  try clear hcz23_0
  try clear hcz23_1
  try clear hcz23_2
  try clear hcz23_3
  try clear hcz23_4
  try clear hcz23_5
  try clear hcz23_6
  try clear hcz23_7
  try clear hcz24_0
  try clear hcz24_1
  try clear hcz24_2
  try clear hcz24_3
  try clear hcz24_4
  try clear hcz24_5
  try clear hcz24_6
  try clear hcz24_7
  try clear hcz26_0
  try clear hcz26_1
  try clear hcz26_2
  try clear hcz26_3
  try clear hcz26_4
  try clear hcz26_5
  try clear hcz26_6
  try clear hcz26_7
  try clear hcz27_0
  try clear hcz27_1
  try clear hcz27_2
  try clear hcz27_3
  try clear hcz27_4
  try clear hcz27_5
  try clear hcz27_6
  try clear hcz27_7
  try clear hcz29_0
  try clear hcz29_1
  try clear hcz29_2
  try clear hcz29_3
  try clear hcz29_4
  try clear hcz29_5
  try clear hcz29_6
  try clear hcz29_7
  try clear hcz30_0
  try clear hcz30_1
  try clear hcz30_2
  try clear hcz30_3
  try clear hcz30_4
  try clear hcz30_5
  try clear hcz30_6
  try clear hcz30_7
  try clear hfz11_0
  try clear hfz11_1
  try clear hfz11_2
  try clear hfz11_3
  try clear hfz11_4
  try clear hfz11_5
  try clear hfz11_6
  try clear hfz11_7
  try clear hfz12_0
  try clear hfz12_1
  try clear hfz12_2
  try clear hfz12_3
  try clear hfz12_4
  try clear hfz12_5
  try clear hfz12_6
  try clear hfz12_7
  try clear hfz14_0
  try clear hfz14_1
  try clear hfz14_2
  try clear hfz14_3
  try clear hfz14_4
  try clear hfz14_5
  try clear hfz14_6
  try clear hfz14_7
  try clear hfz15_0
  try clear hfz15_1
  try clear hfz15_2
  try clear hfz15_3
  try clear hfz15_4
  try clear hfz15_5
  try clear hfz15_6
  try clear hfz15_7
  try clear hfz17_0
  try clear hfz17_1
  try clear hfz17_2
  try clear hfz17_3
  try clear hfz17_4
  try clear hfz17_5
  try clear hfz17_6
  try clear hfz17_7
  try clear hfz18_0
  try clear hfz18_1
  try clear hfz18_2
  try clear hfz18_3
  try clear hfz18_4
  try clear hfz18_5
  try clear hfz18_6
  try clear hfz18_7
  try clear hfz20_0
  try clear hfz20_1
  try clear hfz20_2
  try clear hfz20_3
  try clear hfz20_4
  try clear hfz20_5
  try clear hfz20_6
  try clear hfz20_7
  try clear hfz21_0
  try clear hfz21_1
  try clear hfz21_2
  try clear hfz21_3
  try clear hfz21_4
  try clear hfz21_5
  try clear hfz21_6
  try clear hfz21_7
  try clear hfz23_0
  try clear hfz23_1
  try clear hfz23_2
  try clear hfz23_3
  try clear hfz23_4
  try clear hfz23_5
  try clear hfz23_6
  try clear hfz23_7
  try clear hfz24_0
  try clear hfz24_1
  try clear hfz24_2
  try clear hfz24_3
  try clear hfz24_4
  try clear hfz24_5
  try clear hfz24_6
  try clear hfz24_7
  try clear hfz26_0
  try clear hfz26_1
  try clear hfz26_2
  try clear hfz26_3
  try clear hfz26_4
  try clear hfz26_5
  try clear hfz26_6
  try clear hfz26_7
  try clear hfz27_0
  try clear hfz27_1
  try clear hfz27_2
  try clear hfz27_3
  try clear hfz27_4
  try clear hfz27_5
  try clear hfz27_6
  try clear hfz27_7
  try clear hfz29_0
  try clear hfz29_1
  try clear hfz29_2
  try clear hfz29_3
  try clear hfz29_4
  try clear hfz29_5
  try clear hfz29_6
  try clear hfz29_7
  try clear hfz30_0
  try clear hfz30_1
  try clear hfz30_2
  try clear hfz30_3
  try clear hfz30_4
  try clear hfz30_5
  try clear hfz30_6
  try clear hfz30_7
  obtain ⟨kq, x32_2, rfl, HA, HJ2, BK1904, BK1905, HB⟩ := hcut
  cases kq with
  | zero => exact absurd HA.out (by simp [spec_SameBody.j0])
  | succ kj2 =>
   have H := HA.out
   clear HA
   simp only [spec_SameBody.j0] at H
   by_cases c32 : x32_2 = true
   ·subst c32
    have H1 : (some false) = some r := by rw [if_pos rfl] at H; exact H
    clear H
    have H := H1
    clear H1
    obtain rfl := Option.some.inj H
    go_wp2
    repeat (go_quiet (fail); try go_wp2)
    go_ret
    exact ⟨er_q, bw_q HB⟩
   ·replace c32 := Bool.eq_false_iff.mpr c32
    subst c32
    have H1 : (spec_SameBody.l0 kj2 0 a0_0 a0_1 a0_2 a0_3 a0_4 l0_5 a0_6 a0_7 a1_0 a1_1 a1_2 a1_3 a1_4 l1_5 a1_6 a1_7) = some r := by rw [if_neg (show ¬ (false = true) by decide)] at H; exact H
    clear H
    have H := H1
    clear H1
    have H' := Aside0.mk H
    clear H
    go_wp2
    repeat (go_quiet (fail); try go_wp2)
    go_loopg [5] kj2 (fun kq v5 w' => ∃ (x5_2 : Int), v5 = .int .i64 x5_2 ∧ Aside0 (spec_SameBody.l0 kq x5_2 a0_0 a0_1 a0_2 a0_3 a0_4 l0_5 a0_6 a0_7 a1_0 a1_1 a1_2 a1_3 a1_4 l1_5 a1_6 a1_7 = some r) ∧ Aside0 (kq ≤ kj2) ∧ Aside0 (w'.heap[gb1904]? = some (.cells #[.int .i64 a0_0, .int .i64 a0_1, .int .i64 a0_2, .int .i64 a0_3, .int .i64 a0_4, (.slice A0_5 l0_5.length c0_5), .int .i64 a0_6, .bool a0_7] 61 (0, 0))) ∧ Aside0 (w'.heap[gb1905]? = some (.cells #[.int .i64 a1_0, .int .i64 a1_1, .int .i64 a1_2, .int .i64 a1_3, .int .i64 a1_4, (.slice A1_5 l1_5.length c1_5), .int .i64 a1_6, .bool a1_7] 61 (0, 0))) ∧ Aside0 (Below w.heap.size w w'))
    case atStart => exact ⟨(0), (by first | rfl | (simp; done) | (simp [*]; done)), H', ⟨Nat.le_refl _⟩, ⟨by refine bz_ ?_; exact BK1904.out⟩, ⟨by refine bz_ ?_; exact BK1905.out⟩, ⟨bw_q HB⟩⟩
    case round =>
     clear H'
     try clear c1
     try clear c2
     try clear p2
     try clear c3
     try clear c7
     try clear c8
     try clear c8b0
     try clear c8b1
     try clear c9
     try clear c9b0
     try clear c9b1
     try clear c9b2
     try clear c10
     try clear c16
     try clear c22
     try clear c28
     try clear c32
     try clear hcz11_0
     try clear hcz11_1
     try clear hcz11_2
     try clear hcz11_3
     try clear hcz11_4
     try clear hcz11_5
     try clear hcz11_6
     try clear hcz11_7
     try clear hcz12_0
     try clear hcz12_1
     try clear hcz12_2
     try clear hcz12_3
     try clear hcz12_4
     try clear hcz12_5
     try clear hcz12_6
     try clear hcz12_7
     try clear hcz14_0
     try clear hcz14_1
     try clear hcz14_2
     try clear hcz14_3
     try clear hcz14_4
     try clear hcz14_5
     try clear hcz14_6
     try clear hcz14_7
     try clear hcz15_0
     try clear hcz15_1
     try clear hcz15_2
     try clear hcz15_3
     try clear hcz15_4
     try clear hcz15_5
     try clear hcz15_6
     try clear hcz15_7
     try clear hcz17_0
     try clear hcz17_1
     try clear hcz17_2
     try clear hcz17_3
     try clear hcz17_4
     try clear hcz17_5
     try clear hcz17_6
     try clear hcz17_7
     try clear hcz18_0
     try clear hcz18_1
     try clear hcz18_2
     try clear hcz18_3
     try clear hcz18_4
     try clear hcz18_5
     try clear hcz18_6
     try clear hcz18_7
     try clear hcz20_0
     try clear hcz20_1
     try clear hcz20_2
     try clear hcz20_3
     try clear hcz20_4
     try clear hcz20_5
     try clear hcz20_6
     try clear hcz20_7
     try clear hcz21_0
     try clear hcz21_1
     try clear hcz21_2
     try clear hcz21_3
     try clear hcz21_4
     try clear hcz21_5
     try clear hcz21_6
     try clear hcz21_7
     try clear hcz23_0
     try clear hcz23_1
     try clear hcz23_2
     try clear hcz23_3
     try clear hcz23_4
     try clear hcz23_5
     try clear hcz23_6
     try clear hcz23_7
     try clear hcz24_0
     try clear hcz24_1
     try clear hcz24_2
     try clear hcz24_3
     try clear hcz24_4
     try clear hcz24_5
     try clear hcz24_6
     try clear hcz24_7
     try clear hcz26_0
     try clear hcz26_1
     try clear hcz26_2
     try clear hcz26_3
     try clear hcz26_4
     try clear hcz26_5
     try clear hcz26_6
     try clear hcz26_7
     try clear hcz27_0
     try clear hcz27_1
     try clear hcz27_2
     try clear hcz27_3
     try clear hcz27_4
     try clear hcz27_5
     try clear hcz27_6
     try clear hcz27_7
     try clear hcz29_0
     try clear hcz29_1
     try clear hcz29_2
     try clear hcz29_3
     try clear hcz29_4
     try clear hcz29_5
     try clear hcz29_6
     try clear hcz29_7
     try clear hcz30_0
     try clear hcz30_1
     try clear hcz30_2
     try clear hcz30_3
     try clear hcz30_4
     try clear hcz30_5
     try clear hcz30_6
     try clear hcz30_7
     try clear hfz11_0
     try clear hfz11_1
     try clear hfz11_2
     try clear hfz11_3
     try clear hfz11_4
     try clear hfz11_5
     try clear hfz11_6
     try clear hfz11_7
     try clear hfz12_0
     try clear hfz12_1
     try clear hfz12_2
     try clear hfz12_3
     try clear hfz12_4
     try clear hfz12_5
     try clear hfz12_6
     try clear hfz12_7
     try clear hfz14_0
     try clear hfz14_1
     try clear hfz14_2
     try clear hfz14_3
     try clear hfz14_4
     try clear hfz14_5
     try clear hfz14_6
     try clear hfz14_7
     try clear hfz15_0
     try clear hfz15_1
     try clear hfz15_2
     try clear hfz15_3
     try clear hfz15_4
     try clear hfz15_5
     try clear hfz15_6
     try clear hfz15_7
     try clear hfz17_0
     try clear hfz17_1
     try clear hfz17_2
     try clear hfz17_3
     try clear hfz17_4
     try clear hfz17_5
     try clear hfz17_6
     try clear hfz17_7
     try clear hfz18_0
     try clear hfz18_1
     try clear hfz18_2
     try clear hfz18_3
     try clear hfz18_4
     try clear hfz18_5
     try clear hfz18_6
     try clear hfz18_7
     try clear hfz20_0
     try clear hfz20_1
     try clear hfz20_2
     try clear hfz20_3
     try clear hfz20_4
     try clear hfz20_5
     try clear hfz20_6
     try clear hfz20_7
     try clear hfz21_0
     try clear hfz21_1
     try clear hfz21_2
     try clear hfz21_3
     try clear hfz21_4
     try clear hfz21_5
     try clear hfz21_6
     try clear hfz21_7
     try clear hfz23_0
     try clear hfz23_1
     try clear hfz23_2
     try clear hfz23_3
     try clear hfz23_4
     try clear hfz23_5
     try clear hfz23_6
     try clear hfz23_7
     try clear hfz24_0
     try clear hfz24_1
     try clear hfz24_2
     try clear hfz24_3
     try clear hfz24_4
     try clear hfz24_5
     try clear hfz24_6
     try clear hfz24_7
     try clear hfz26_0
     try clear hfz26_1
     try clear hfz26_2
     try clear hfz26_3
     try clear hfz26_4
     try clear hfz26_5
     try clear hfz26_6
     try clear hfz26_7
     try clear hfz27_0
     try clear hfz27_1
     try clear hfz27_2
     try clear hfz27_3
     try clear hfz27_4
     try clear hfz27_5
     try clear hfz27_6
     try clear hfz27_7
     try clear hfz29_0
     try clear hfz29_1
     try clear hfz29_2
     try clear hfz29_3
     try clear hfz29_4
     try clear hfz29_5
     try clear hfz29_6
     try clear hfz29_7
     try clear hfz30_0
     try clear hfz30_1
     try clear hfz30_2
     try clear hfz30_3
     try clear hfz30_4
     try clear hfz30_5
     try clear hfz30_6
     try clear hfz30_7
     try clear p2
     obtain ⟨x5_2, rfl, HA, HK2, BK1904, BK1905, HB⟩ := hrel
     cases gk with
     | zero => exact absurd HA.out (by simp [spec_SameBody.l0])
     | succ k2 =>
      have H := HA.out
      clear HA
      simp only [spec_SameBody.l0] at H
      by_cases c33 : x5_2 < (l0_5.length : Int)
      ·rw [if_pos c33] at H
       have c33b0 : decide (x5_2 < (l0_5.length : Int)) = true := decide_eq_true c33
       clear c33
       by_cases c34 : 0 ≤ x5_2
       ·rw [if_pos c34] at H
        have c34b0 : decide (0 ≤ x5_2) = true := decide_eq_true c34
        clear c34
        by_cases c35 : x5_2 < (l1_5.length : Int)
        ·rw [if_pos c35] at H
         have c35b0 : decide (x5_2 < (l1_5.length : Int)) = true := decide_eq_true c35
         clear c35
         by_cases c36 : (!(((rd_T127 l0_5 x5_2).f0) == ((rd_T127 l1_5 x5_2).f0)) || (!(((rd_T127 l0_5 x5_2).f1) == ((rd_T127 l1_5 x5_2).f1)))) = true
         ·rw [if_pos c36] at H
          have c36b0 : (!(((rd_T127 l0_5 x5_2).f0) == ((rd_T127 l1_5 x5_2).f0)) || (!(((rd_T127 l0_5 x5_2).f1) == ((rd_T127 l1_5 x5_2).f1)))) = true := c36
          clear c36
          obtain rfl := Option.some.inj H
          have hnb37 := NB1904_1905.out
          have hnc37 := NB1905_1904.out
          obtain ⟨hcz38_0, hcz38_1, hcz38_2, hcz38_3, hcz38_4, hcz38_5, hcz38_6, hcz38_7⟩ := cz8_ BK1904
          obtain ⟨hfz38_0, hfz38_1, hfz38_2, hfz38_3, hfz38_4, hfz38_5, hfz38_6, hfz38_7⟩ := fz8_ BK1904
          have p1907 : 0 ≤ (x5_2 : Int) := of_decide_eq_true as_q
          have q1907 : x5_2 < (l0_5.length : Int) := of_decide_eq_true as_q
          obtain ⟨ad1907, e1907, hx1907_0, hx1907_1⟩ := at_T127 HR0_5.out x5_2 p1907 q1907
          cases e1907
          replace hx1907_0 := (HB.out.cell (World.block_lt_of_cell? w _ hx1907_0)).trans hx1907_0
          replace hx1907_1 := (HB.out.cell (World.block_lt_of_cell? w _ hx1907_1)).trans hx1907_1
          replace p1907 := eq_true p1907
          replace q1907 := eq_true q1907
          obtain ⟨hcz39_0, hcz39_1, hcz39_2, hcz39_3, hcz39_4, hcz39_5, hcz39_6, hcz39_7⟩ := cz8_ BK1905
          obtain ⟨hfz39_0, hfz39_1, hfz39_2, hfz39_3, hfz39_4, hfz39_5, hfz39_6, hfz39_7⟩ := fz8_ BK1905
          have p1908 : 0 ≤ (x5_2 : Int) := of_decide_eq_true as_q
          have q1908 : x5_2 < (l1_5.length : Int) := of_decide_eq_true as_q
          obtain ⟨ad1908, e1908, hx1908_0, hx1908_1⟩ := at_T127 HR1_5.out x5_2 p1908 q1908
          cases e1908
          replace hx1908_0 := (HB.out.cell (World.block_lt_of_cell? w _ hx1908_0)).trans hx1908_0
          replace hx1908_1 := (HB.out.cell (World.block_lt_of_cell? w _ hx1908_1)).trans hx1908_1
          replace p1908 := eq_true p1908
          replace q1908 := eq_true q1908
          go_wp2
          repeat (go_quiet (fail); try go_wp2)
          go_ret
          exact ⟨er_q, bw_q HB⟩
         ·rw [if_neg c36] at H
          have c36b0 : (!(((rd_T127 l0_5 x5_2).f0) == ((rd_T127 l1_5 x5_2).f0)) || (!(((rd_T127 l0_5 x5_2).f1) == ((rd_T127 l1_5 x5_2).f1)))) = false := by simpa using c36
          clear c36
          have H' := Aside0.mk H
          clear H
          have hnb40 := NB1904_1905.out
          have hnc40 := NB1905_1904.out
          obtain ⟨hcz41_0, hcz41_1, hcz41_2, hcz41_3, hcz41_4, hcz41_5, hcz41_6, hcz41_7⟩ := cz8_ BK1904
          obtain ⟨hfz41_0, hfz41_1, hfz41_2, hfz41_3, hfz41_4, hfz41_5, hfz41_6, hfz41_7⟩ := fz8_ BK1904
          have p1907 : 0 ≤ (x5_2 : Int) := of_decide_eq_true as_q
          have q1907 : x5_2 < (l0_5.length : Int) := of_decide_eq_true as_q
          obtain ⟨ad1907, e1907, hx1907_0, hx1907_1⟩ := at_T127 HR0_5.out x5_2 p1907 q1907
          cases e1907
          replace hx1907_0 := (HB.out.cell (World.block_lt_of_cell? w _ hx1907_0)).trans hx1907_0
          replace hx1907_1 := (HB.out.cell (World.block_lt_of_cell? w _ hx1907_1)).trans hx1907_1
          replace p1907 := eq_true p1907
          replace q1907 := eq_true q1907
          obtain ⟨hcz42_0, hcz42_1, hcz42_2, hcz42_3, hcz42_4, hcz42_5, hcz42_6, hcz42_7⟩ := cz8_ BK1905
          obtain ⟨hfz42_0, hfz42_1, hfz42_2, hfz42_3, hfz42_4, hfz42_5, hfz42_6, hfz42_7⟩ := fz8_ BK1905
          have p1908 : 0 ≤ (x5_2 : Int) := of_decide_eq_true as_q
          have q1908 : x5_2 < (l1_5.length : Int) := of_decide_eq_true as_q
          obtain ⟨ad1908, e1908, hx1908_0, hx1908_1⟩ := at_T127 HR1_5.out x5_2 p1908 q1908
          cases e1908
          replace hx1908_0 := (HB.out.cell (World.block_lt_of_cell? w _ hx1908_0)).trans hx1908_0
          replace hx1908_1 := (HB.out.cell (World.block_lt_of_cell? w _ hx1908_1)).trans hx1908_1
          replace p1908 := eq_true p1908
          replace q1908 := eq_true q1908
          go_wp2
          repeat (go_quiet (fail); try go_wp2)
          go_roundg k2
          case measure => have := HJ2.out; have := HK2.out; omega
          case rel => exact ⟨(wrap64 (x5_2 + 1)), (by first | rfl | (simp; done) | (simp [*]; done)), H', ⟨by have := HJ2.out; have := HK2.out; omega⟩, ⟨by refine bz_ ?_; exact BK1904.out⟩, ⟨by refine bz_ ?_; exact BK1905.out⟩, ⟨bw_q HB⟩⟩
        ·rw [if_neg c35] at H
         exact absurd H (by simp)
       ·rw [if_neg c34] at H
        exact absurd H (by simp)
      ·rw [if_neg c33] at H
       have c33b0 : decide (x5_2 < (l0_5.length : Int)) = false := decide_eq_false c33
       clear c33
       obtain rfl := Option.some.inj H
       have hnb43 := NB1904_1905.out
       have hnc43 := NB1905_1904.out
       obtain ⟨hcz44_0, hcz44_1, hcz44_2, hcz44_3, hcz44_4, hcz44_5, hcz44_6, hcz44_7⟩ := cz8_ BK1904
       obtain ⟨hfz44_0, hfz44_1, hfz44_2, hfz44_3, hfz44_4, hfz44_5, hfz44_6, hfz44_7⟩ := fz8_ BK1904
       go_wp2
       repeat (go_quiet (fail); try go_wp2)
       go_ret
       exact ⟨er_q, bw_q HB⟩

end Go.Proofs.Ythjmdiggglkeaaa.Q
