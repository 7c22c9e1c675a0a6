import Derived.Test.YthjmdiggglkeaaaXFnStoresQimplnearOk
import Derived.Test.YthjmdiggglkeaaaXFnStoresQspecSameKey
import Derived.Test.YthjmdiggglkeaaaXFnStoresQimplcopyRecords
import Derived.Test.YthjmdiggglkeaaaXFnStoresQimplput
/- A Go function as a Lean function, and its contract: for every input the Go code comes to what the Lean function tells. -/





namespace Go.Proofs.Ythjmdiggglkeaaa.Q
open Go.RowKit Go.Proofs.YthjmdiggglkeaaaW.PrintWords Go.Proofs.YthjmdiggglkeaaaW.PrintLast Go.Proofs.YthjmdiggglkeaaaW.PrintMore
attribute [local go_sem] max2_int min2_int max_two min_two max_three min_three max_four min_four   -- for this text's walks alone
set_option linter.unusedVariables false
set_option linter.unusedSimpArgs false

/-! ### impl_Install: function 42 -/
def impl_Install.j0 : Nat → List (S61) → Bool → Int → Int → Int → Int → Int → List (S127) → Int → Bool → Option ((List (S61)) × Bool)
 | 0, _, _, _, _, _, _, _, _, _, _ => none
 | k + 1, x0, x14, x671000, x671001, x671002, x671003, x671004, x671005, x671006, x671007 => if x14 = true then (some (([] : List (S61)), false)) else ((impl_keyAt.f k x0 x671000 x671001 x671002 x671003 x671004 x671005 x671006 x671007).bind fun t673 => (if t673 ≥ 0 then (if 0 ≤ t673 then (if t673 < (x0.length : Int) then (if ((rd_T61 x0 t673).f4) ≥ x671004 then (some (([] : List (S61)), false)) else (if t673 < 0 then (if (x0.length : Int) ≥ 150 then (some (([] : List (S61)), false)) else ((impl_put.f k x0 x671000 x671001 x671002 x671003 x671004 x671005 x671006 x671007).bind fun t675 => (some (t675, true)))) else ((impl_put.f k x0 x671000 x671001 x671002 x671003 x671004 x671005 x671006 x671007).bind fun t678 => (some (t678, true))))) else (none)) else (none)) else (if t673 < 0 then (if (x0.length : Int) ≥ 150 then (some (([] : List (S61)), false)) else ((impl_put.f k x0 x671000 x671001 x671002 x671003 x671004 x671005 x671006 x671007).bind fun t681 => (some (t681, true)))) else ((impl_put.f k x0 x671000 x671001 x671002 x671003 x671004 x671005 x671006 x671007).bind fun t684 => (some (t684, true))))))
def impl_Install.f (k : Nat) (l0 : List (S61)) (a1_0 : Int) (a1_1 : Int) (a1_2 : Int) (a1_3 : Int) (a1_4 : Int) (l1_5 : List (S127)) (a1_6 : Int) (a1_7 : Bool) : Option ((List (S61)) × Bool) := (impl_StoreOk.f k l0).bind fun t671 => (if t671 = true then ((impl_RecordOk.f k a1_0 a1_1 a1_2 a1_3 a1_4 l1_5 a1_6 a1_7).bind fun t672 => (impl_Install.j0 k l0 (!t672) a1_0 a1_1 a1_2 a1_3 a1_4 l1_5 a1_6 a1_7)) else (impl_Install.j0 k l0 true a1_0 a1_1 a1_2 a1_3 a1_4 l1_5 a1_6 a1_7))
theorem impl_Install.mono_l : ∀ k, (∀ y0 y1 y2 y3 y4 y5 y6 y7 y8 y9, LeO (impl_Install.j0 k y0 y1 y2 y3 y4 y5 y6 y7 y8 y9) (impl_Install.j0 (k + 1) y0 y1 y2 y3 y4 y5 y6 y7 y8 y9))
 | 0 => fun _ _ _ _ _ _ _ _ _ _ r h => by simp [impl_Install.j0] at h
 | k + 1 => by
  have ih0 := impl_Install.mono_l k
  ·intro y0 y1 y2 y3 y4 y5 y6 y7 y8 y9
   unfold impl_Install.j0
   repeat' first
   | (with_reducible exact ih0 _ _ _ _ _ _ _ _ _ _)
   | (with_reducible exact impl_RecordOk.mono _ _ _ _ _ _ _ _ _)
   | (with_reducible exact impl_StoreOk.mono _ _)
   | (with_reducible exact impl_keyAt.mono _ _ _ _ _ _ _ _ _ _)
   | (with_reducible exact impl_put.mono _ _ _ _ _ _ _ _ _ _)
   | (with_reducible exact LeO.refl _)
   | (with_reducible exact LeO.none _)
   | (with_reducible refine LeO.ite ?_ ?_)
   | (with_reducible refine LeO.bind ?_ (fun _ => ?_))
   | exact ih0 _ _ _ _ _ _ _ _ _ _
   | exact impl_RecordOk.mono _ _ _ _ _ _ _ _ _
   | exact impl_StoreOk.mono _ _
   | exact impl_keyAt.mono _ _ _ _ _ _ _ _ _ _
   | exact impl_put.mono _ _ _ _ _ _ _ _ _ _
   | exact LeO.none _
   | refine LeO.ite ?_ ?_
   | refine LeO.bind ?_ (fun _ => ?_)
theorem impl_Install.mono : ∀ a0 a1 a2 a3 a4 a5 a6 a7 a8 k, LeO (impl_Install.f k a0 a1 a2 a3 a4 a5 a6 a7 a8) (impl_Install.f (k + 1) a0 a1 a2 a3 a4 a5 a6 a7 a8) := by
 intro a0 a1 a2 a3 a4 a5 a6 a7 a8 k
 have ih0 := impl_Install.mono_l k
 unfold impl_Install.f
 repeat' first
   | (with_reducible exact ih0 _ _ _ _ _ _ _ _ _ _)
   | (with_reducible exact impl_RecordOk.mono _ _ _ _ _ _ _ _ _)
   | (with_reducible exact impl_StoreOk.mono _ _)
   | (with_reducible exact impl_keyAt.mono _ _ _ _ _ _ _ _ _ _)
   | (with_reducible exact impl_put.mono _ _ _ _ _ _ _ _ _ _)
   | (with_reducible exact LeO.refl _)
   | (with_reducible exact LeO.none _)
   | (with_reducible refine LeO.ite ?_ ?_)
   | (with_reducible refine LeO.bind ?_ (fun _ => ?_))
   | exact ih0 _ _ _ _ _ _ _ _ _ _
   | exact impl_RecordOk.mono _ _ _ _ _ _ _ _ _
   | exact impl_StoreOk.mono _ _
   | exact impl_keyAt.mono _ _ _ _ _ _ _ _ _ _
   | exact impl_put.mono _ _ _ _ _ _ _ _ _ _
   | exact LeO.none _
   | refine LeO.ite ?_ ?_
   | refine LeO.bind ?_ (fun _ => ?_)
set_option maxHeartbeats 8000000 in
set_option maxRecDepth 100000 in
theorem impl_Install.calls (k : Nat) (A0 : Option Addr) (c0 : Nat) (l0 : List (S61)) (a1_0 : Int) (a1_1 : Int) (a1_2 : Int) (a1_3 : Int) (a1_4 : Int) (A1_5 : Option Addr) (c1_5 : Nat) (l1_5 : List (S127)) (a1_6 : Int) (a1_7 : Bool) (r1 : List (S61)) (r2 : Bool) (w : World) (hr0 : Kd.C k61 w A0 l0.length l0) (hc0 : l0.length ≤ c0) (hr1_5 : Kd.C k127 w A1_5 l1_5.length l1_5) (hc1_5 : l1_5.length ≤ c1_5) (h : impl_Install.f k l0 a1_0 a1_1 a1_2 a1_3 a1_4 l1_5 a1_6 a1_7 = some (r1, r2)) :
  Calls Try.prog 42 #[.slice A0 l0.length c0, .agg #[.int .i64 a1_0, .int .i64 a1_1, .int .i64 a1_2, .int .i64 a1_3, .int .i64 a1_4, .slice A1_5 l1_5.length c1_5, .int .i64 a1_6, .bool a1_7]] w fun e w' => ∃ v0_ : Value, e = .returned (.tuple #[v0_, .bool r2]) ∧ Kd.S k61 61 w' w.heap.size (fun _ => True) v0_ r1 ∧ Below w.heap.size w w' := by
 have hu61 := Try.underlying61
 have HR0 := Aside0.mk hr0
 have HC0 := Aside0.mk hc0
 clear hr0 hc0
 have HR1_5 := Aside0.mk hr1_5
 have HC1_5 := Aside0.mk hc1_5
 clear hr1_5 hc1_5
 have HB := Aside0.mk (Below.refl w.heap.size w)
 have H : ((impl_StoreOk.f k l0).bind fun t671 => (if t671 = true then ((impl_RecordOk.f k a1_0 a1_1 a1_2 a1_3 a1_4 l1_5 a1_6 a1_7).bind fun t672 => (impl_Install.j0 k l0 (!t672) a1_0 a1_1 a1_2 a1_3 a1_4 l1_5 a1_6 a1_7)) else (impl_Install.j0 k l0 true a1_0 a1_1 a1_2 a1_3 a1_4 l1_5 a1_6 a1_7))) = some (r1, r2) := h
 clear h
 have HC3 := Aside0.mk H
 clear H
 go_enter Try.func42, Try.ntmps42
 go_upto_region 1 with (first | ((with_reducible refine gate_dst (N := 3) rfl ?_); (try (refine gate_guard (by rfl) ?_; dsimp only)); refine box_q 3 #[.int .i64 a1_0, .int .i64 a1_1, .int .i64 a1_2, .int .i64 a1_3, .int .i64 a1_4, .slice A1_5 l1_5.length c1_5, .int .i64 a1_6, .bool a1_7] 61 ?_; intro gb670 hg w4 hbox hb; have BK670 := Aside0.mk (hbox); have GW670 := Aside0.mk ((by rw [hg]; exact (below_size (bw_q HB)) : w.heap.size ≤ gb670)); have GE670 := Aside0.mk ((by rw [hg]; exact (below_size (bw_q HB)) : w.heap.size ≤ gb670)); replace HB := Aside0.mk (below_step (bw_q HB) hb); clear hb hbox hg))
 repeat (go_quiet (first | ((with_reducible refine gate_dst (N := 3) rfl ?_); (try (refine gate_guard (by rfl) ?_; dsimp only)); refine box_q 3 #[.int .i64 a1_0, .int .i64 a1_1, .int .i64 a1_2, .int .i64 a1_3, .int .i64 a1_4, .slice A1_5 l1_5.length c1_5, .int .i64 a1_6, .bool a1_7] 61 ?_; intro gb670 hg w4 hbox hb; have BK670 := Aside0.mk (hbox); have GW670 := Aside0.mk ((by rw [hg]; exact (below_size (bw_q HB)) : w.heap.size ≤ gb670)); have GE670 := Aside0.mk ((by rw [hg]; exact (below_size (bw_q HB)) : w.heap.size ≤ gb670)); replace HB := Aside0.mk (below_step (bw_q HB) hb); clear hb hbox hg)); go_upto_region 1 with (first | ((with_reducible refine gate_dst (N := 3) rfl ?_); (try (refine gate_guard (by rfl) ?_; dsimp only)); refine box_q 3 #[.int .i64 a1_0, .int .i64 a1_1, .int .i64 a1_2, .int .i64 a1_3, .int .i64 a1_4, .slice A1_5 l1_5.length c1_5, .int .i64 a1_6, .bool a1_7] 61 ?_; intro gb670 hg w4 hbox hb; have BK670 := Aside0.mk (hbox); have GW670 := Aside0.mk ((by rw [hg]; exact (below_size (bw_q HB)) : w.heap.size ≤ gb670)); have GE670 := Aside0.mk ((by rw [hg]; exact (below_size (bw_q HB)) : w.heap.size ≤ gb670)); replace HB := Aside0.mk (below_step (bw_q HB) hb); clear hb hbox hg)))
 (try simp only [Act.put, List.setIfInBounds_toArray, List.set_cons_zero, List.set_cons_succ])
 go_cut [14] (fun v14 wc => ∃ (kq : Nat) (x14_2 : Bool), v14 = .bool x14_2 ∧ Aside0 (impl_Install.j0 kq l0 x14_2 a1_0 a1_1 a1_2 a1_3 a1_4 l1_5 a1_6 a1_7 = some (r1, r2)) ∧ Aside0 (kq ≤ k) ∧ Aside0 (wc.heap[gb670]? = some (.cells #[.int .i64 a1_0, .int .i64 a1_1, .int .i64 a1_2, .int .i64 a1_3, .int .i64 a1_4, (.slice A1_5 l1_5.length c1_5), .int .i64 a1_6, .bool a1_7] 61 (0, 0))) ∧ Aside0 (Below w.heap.size w wc))
 case first =>
  have H := HC3.out
  clear HC3
  replace H := Option.bind_eq_some_iff.mp H
  obtain ⟨t671, A50, H⟩ := H
  replace H : (if t671 = true then ((impl_RecordOk.f k a1_0 a1_1 a1_2 a1_3 a1_4 l1_5 a1_6 a1_7).bind fun t672 => (impl_Install.j0 k l0 (!t672) a1_0 a1_1 a1_2 a1_3 a1_4 l1_5 a1_6 a1_7)) else (impl_Install.j0 k l0 true a1_0 a1_1 a1_2 a1_3 a1_4 l1_5 a1_6 a1_7)) = some (r1, r2) := H
  have A5 := Aside0.mk A50
  clear A50
  by_cases c6 : t671 = true
  ·subst c6
   have H1 : ((impl_RecordOk.f k a1_0 a1_1 a1_2 a1_3 a1_4 l1_5 a1_6 a1_7).bind fun t672 => (impl_Install.j0 k l0 (!t672) a1_0 a1_1 a1_2 a1_3 a1_4 l1_5 a1_6 a1_7)) = some (r1, r2) := by rw [if_pos rfl] at H; exact H
   clear H
   have H := H1
   clear H1
   replace H := Option.bind_eq_some_iff.mp H
   obtain ⟨t672, A70, H⟩ := H
   replace H : (impl_Install.j0 k l0 (!t672) a1_0 a1_1 a1_2 a1_3 a1_4 l1_5 a1_6 a1_7) = some (r1, r2) := H
   have A7 := Aside0.mk A70
   clear A70
   have H' := Aside0.mk H
   clear H
   go_wp2_with (first | (go_at_call 50; (with_reducible refine (impl_StoreOk.calls k _ _ l0 true _ ?side1 ?side2 A5.out).mono ?_); (case side1 => exact cs_q (Kd.C_below HR0.out HB.out)); (case side2 => exact HC0.out); rintro e w8 ⟨rfl, hb⟩; replace BK670 := Aside0.mk (blk_below (g := gb670) (bk_q BK670) hb); replace HB := Aside0.mk (below_step (bw_q HB) hb); (try clear hb); (try clear hb2); (try clear hk); (try clear hi); have hcz9_0 : w8.cell? ⟨gb670, 0, none⟩ = some (.int .i64 a1_0) := (blk_cell BK670.out 0).trans rfl; have hcz9_1 : w8.cell? ⟨gb670, 1, none⟩ = some (.int .i64 a1_1) := (blk_cell BK670.out 1).trans rfl; have hcz9_2 : w8.cell? ⟨gb670, 2, none⟩ = some (.int .i64 a1_2) := (blk_cell BK670.out 2).trans rfl; have hcz9_3 : w8.cell? ⟨gb670, 3, none⟩ = some (.int .i64 a1_3) := (blk_cell BK670.out 3).trans rfl; have hcz9_4 : w8.cell? ⟨gb670, 4, none⟩ = some (.int .i64 a1_4) := (blk_cell BK670.out 4).trans rfl; have hcz9_5 : w8.cell? ⟨gb670, 5, none⟩ = some (.slice A1_5 l1_5.length c1_5) := (blk_cell BK670.out 5).trans rfl; have hcz9_6 : w8.cell? ⟨gb670, 6, none⟩ = some (.int .i64 a1_6) := (blk_cell BK670.out 6).trans rfl; have hcz9_7 : w8.cell? ⟨gb670, 7, none⟩ = some (.bool a1_7) := (blk_cell BK670.out 7).trans rfl; have hfz9_0 := blk_frozen BK670.out 0; have hfz9_1 := blk_frozen BK670.out 1; have hfz9_2 := blk_frozen BK670.out 2; have hfz9_3 := blk_frozen BK670.out 3; have hfz9_4 := blk_frozen BK670.out 4; have hfz9_5 := blk_frozen BK670.out 5; have hfz9_6 := blk_frozen BK670.out 6; have hfz9_7 := blk_frozen BK670.out 7) | (go_at_call 110; (with_reducible refine (impl_RecordOk.calls k a1_0 a1_1 a1_2 a1_3 a1_4 _ _ l1_5 a1_6 a1_7 t672 _ ?side1 ?side2 A7.out).mono ?_); (case side1 => exact cs_q (Kd.C_below HR1_5.out HB.out)); (case side2 => exact HC1_5.out); rintro e w10 ⟨rfl, hb⟩; replace BK670 := Aside0.mk (blk_below (g := gb670) (bk_q BK670) hb); replace HB := Aside0.mk (below_step (bw_q HB) hb); (try clear hb); (try clear hb2); (try clear hk); (try clear hi)))
   repeat (go_quiet (first | (go_at_call 50; (with_reducible refine (impl_StoreOk.calls k _ _ l0 true _ ?side1 ?side2 A5.out).mono ?_); (case side1 => exact cs_q (Kd.C_below HR0.out HB.out)); (case side2 => exact HC0.out); rintro e w8 ⟨rfl, hb⟩; replace BK670 := Aside0.mk (blk_below (g := gb670) (bk_q BK670) hb); replace HB := Aside0.mk (below_step (bw_q HB) hb); (try clear hb); (try clear hb2); (try clear hk); (try clear hi); have hcz9_0 : w8.cell? ⟨gb670, 0, none⟩ = some (.int .i64 a1_0) := (blk_cell BK670.out 0).trans rfl; have hcz9_1 : w8.cell? ⟨gb670, 1, none⟩ = some (.int .i64 a1_1) := (blk_cell BK670.out 1).trans rfl; have hcz9_2 : w8.cell? ⟨gb670, 2, none⟩ = some (.int .i64 a1_2) := (blk_cell BK670.out 2).trans rfl; have hcz9_3 : w8.cell? ⟨gb670, 3, none⟩ = some (.int .i64 a1_3) := (blk_cell BK670.out 3).trans rfl; have hcz9_4 : w8.cell? ⟨gb670, 4, none⟩ = some (.int .i64 a1_4) := (blk_cell BK670.out 4).trans rfl; have hcz9_5 : w8.cell? ⟨gb670, 5, none⟩ = some (.slice A1_5 l1_5.length c1_5) := (blk_cell BK670.out 5).trans rfl; have hcz9_6 : w8.cell? ⟨gb670, 6, none⟩ = some (.int .i64 a1_6) := (blk_cell BK670.out 6).trans rfl; have hcz9_7 : w8.cell? ⟨gb670, 7, none⟩ = some (.bool a1_7) := (blk_cell BK670.out 7).trans rfl; have hfz9_0 := blk_frozen BK670.out 0; have hfz9_1 := blk_frozen BK670.out 1; have hfz9_2 := blk_frozen BK670.out 2; have hfz9_3 := blk_frozen BK670.out 3; have hfz9_4 := blk_frozen BK670.out 4; have hfz9_5 := blk_frozen BK670.out 5; have hfz9_6 := blk_frozen BK670.out 6; have hfz9_7 := blk_frozen BK670.out 7) | (go_at_call 110; (with_reducible refine (impl_RecordOk.calls k a1_0 a1_1 a1_2 a1_3 a1_4 _ _ l1_5 a1_6 a1_7 t672 _ ?side1 ?side2 A7.out).mono ?_); (case side1 => exact cs_q (Kd.C_below HR1_5.out HB.out)); (case side2 => exact HC1_5.out); rintro e w10 ⟨rfl, hb⟩; replace BK670 := Aside0.mk (blk_below (g := gb670) (bk_q BK670) hb); replace HB := Aside0.mk (below_step (bw_q HB) hb); (try clear hb); (try clear hb2); (try clear hk); (try clear hi))); try go_wp2_with (first | (go_at_call 50; (with_reducible refine (impl_StoreOk.calls k _ _ l0 true _ ?side1 ?side2 A5.out).mono ?_); (case side1 => exact cs_q (Kd.C_below HR0.out HB.out)); (case side2 => exact HC0.out); rintro e w8 ⟨rfl, hb⟩; replace BK670 := Aside0.mk (blk_below (g := gb670) (bk_q BK670) hb); replace HB := Aside0.mk (below_step (bw_q HB) hb); (try clear hb); (try clear hb2); (try clear hk); (try clear hi); have hcz9_0 : w8.cell? ⟨gb670, 0, none⟩ = some (.int .i64 a1_0) := (blk_cell BK670.out 0).trans rfl; have hcz9_1 : w8.cell? ⟨gb670, 1, none⟩ = some (.int .i64 a1_1) := (blk_cell BK670.out 1).trans rfl; have hcz9_2 : w8.cell? ⟨gb670, 2, none⟩ = some (.int .i64 a1_2) := (blk_cell BK670.out 2).trans rfl; have hcz9_3 : w8.cell? ⟨gb670, 3, none⟩ = some (.int .i64 a1_3) := (blk_cell BK670.out 3).trans rfl; have hcz9_4 : w8.cell? ⟨gb670, 4, none⟩ = some (.int .i64 a1_4) := (blk_cell BK670.out 4).trans rfl; have hcz9_5 : w8.cell? ⟨gb670, 5, none⟩ = some (.slice A1_5 l1_5.length c1_5) := (blk_cell BK670.out 5).trans rfl; have hcz9_6 : w8.cell? ⟨gb670, 6, none⟩ = some (.int .i64 a1_6) := (blk_cell BK670.out 6).trans rfl; have hcz9_7 : w8.cell? ⟨gb670, 7, none⟩ = some (.bool a1_7) := (blk_cell BK670.out 7).trans rfl; have hfz9_0 := blk_frozen BK670.out 0; have hfz9_1 := blk_frozen BK670.out 1; have hfz9_2 := blk_frozen BK670.out 2; have hfz9_3 := blk_frozen BK670.out 3; have hfz9_4 := blk_frozen BK670.out 4; have hfz9_5 := blk_frozen BK670.out 5; have hfz9_6 := blk_frozen BK670.out 6; have hfz9_7 := blk_frozen BK670.out 7) | (go_at_call 110; (with_reducible refine (impl_RecordOk.calls k a1_0 a1_1 a1_2 a1_3 a1_4 _ _ l1_5 a1_6 a1_7 t672 _ ?side1 ?side2 A7.out).mono ?_); (case side1 => exact cs_q (Kd.C_below HR1_5.out HB.out)); (case side2 => exact HC1_5.out); rintro e w10 ⟨rfl, hb⟩; replace BK670 := Aside0.mk (blk_below (g := gb670) (bk_q BK670) hb); replace HB := Aside0.mk (below_step (bw_q HB) hb); (try clear hb); (try clear hb2); (try clear hk); (try clear hi))))
   go_meet
   case rel => exact ⟨_, (!t672), (by first | rfl | (simp; done) | (simp [*]; done)), H', ⟨by first | omega | exact Nat.le_refl _⟩, ⟨by refine bz_ ?_; exact BK670.out⟩, ⟨bw_q HB⟩⟩
  ·replace c6 := Bool.eq_false_iff.mpr c6
   subst c6
   have H1 : (impl_Install.j0 k l0 true a1_0 a1_1 a1_2 a1_3 a1_4 l1_5 a1_6 a1_7) = some (r1, r2) := by rw [if_neg (show ¬ (false = true) by decide)] at H; exact H
   clear H
   have H := H1
   clear H1
   have H' := Aside0.mk H
   clear H
   go_wp2_with (first | (go_at_call 50; (with_reducible refine (impl_StoreOk.calls k _ _ l0 false _ ?side1 ?side2 A5.out).mono ?_); (case side1 => exact cs_q (Kd.C_below HR0.out HB.out)); (case side2 => exact HC0.out); rintro e w11 ⟨rfl, hb⟩; replace BK670 := Aside0.mk (blk_below (g := gb670) (bk_q BK670) hb); replace HB := Aside0.mk (below_step (bw_q HB) hb); (try clear hb); (try clear hb2); (try clear hk); (try clear hi)))
   repeat (go_quiet (first | (go_at_call 50; (with_reducible refine (impl_StoreOk.calls k _ _ l0 false _ ?side1 ?side2 A5.out).mono ?_); (case side1 => exact cs_q (Kd.C_below HR0.out HB.out)); (case side2 => exact HC0.out); rintro e w11 ⟨rfl, hb⟩; replace BK670 := Aside0.mk (blk_below (g := gb670) (bk_q BK670) hb); replace HB := Aside0.mk (below_step (bw_q HB) hb); (try clear hb); (try clear hb2); (try clear hk); (try clear hi))); try go_wp2_with (first | (go_at_call 50; (with_reducible refine (impl_StoreOk.calls k _ _ l0 false _ ?side1 ?side2 A5.out).mono ?_); (case side1 => exact cs_q (Kd.C_below HR0.out HB.out)); (case side2 => exact HC0.out); rintro e w11 ⟨rfl, hb⟩; replace BK670 := Aside0.mk (blk_below (g := gb670) (bk_q BK670) hb); replace HB := Aside0.mk (below_step (bw_q HB) hb); (try clear hb); (try clear hb2); (try clear hk); (try clear hi))))
   go_meet
   case rel => exact ⟨_, (true), (by first | rfl | (simp; done) | (simp [*]; done)), H', ⟨by first | omega | exact Nat.le_refl _⟩, ⟨by refine bz_ ?_; exact BK670.out⟩, ⟨bw_q HB⟩⟩
 case rest =>
  clear HC3
  try clear c1
  try clear p2
  try clear c4
  try clear c6
  try clear hcz9_0
  try clear hcz9_1
  try clear hcz9_2
  try clear hcz9_3
  try clear hcz9_4
  try clear hcz9_5
  try clear hcz9_6
  try clear hcz9_7
  try clear hfz9_0
  try clear hfz9_1
  try clear hfz9_2
  try clear hfz9_3
  try clear hfz9_4
  try clear hfz9_5
  try clear hfz9_6
  try clear hfz9_7
  obtain ⟨kq, x14_2, rfl, HA, HJ2, BK670, HB⟩ := hcut
  cases kq with
  | zero => exact absurd HA.out (by simp [impl_Install.j0])
  | succ kj2 =>
   have H := HA.out
   clear HA
   simp only [impl_Install.j0] at H
   by_cases c12 : x14_2 = true
   ·subst c12
    have H1 : (some (([] : List (S61)), false)) = some (r1, r2) := by rw [if_pos rfl] at H; exact H
    clear H
    have H := H1
    clear H1
    simp only [Option.some.injEq, Prod.mk.injEq] at H
    obtain ⟨rfl, rfl⟩ := H
    go_wp2
    repeat (go_quiet (fail); try go_wp2)
    go_ret2
    exact ⟨_, er_q, by first | exact Kd.S_nil _ _ _ _ _ | exact Kd.N_nil _ _ _ _ _ | exact Kd.V_nil _ _ _ _ _ | exact Kd.Q_nil _ _ _ _ _ | exact Kd.R_nil _ _ _ _ _, bw_q HB⟩
   ·replace c12 := Bool.eq_false_iff.mpr c12
    subst c12
    have H1 : ((impl_keyAt.f kj2 l0 a1_0 a1_1 a1_2 a1_3 a1_4 l1_5 a1_6 a1_7).bind fun t673 => (if t673 ≥ 0 then (if 0 ≤ t673 then (if t673 < (l0.length : Int) then (if ((rd_T61 l0 t673).f4) ≥ a1_4 then (some (([] : List (S61)), false)) else (if t673 < 0 then (if (l0.length : Int) ≥ 150 then (some (([] : List (S61)), false)) else ((impl_put.f kj2 l0 a1_0 a1_1 a1_2 a1_3 a1_4 l1_5 a1_6 a1_7).bind fun t675 => (some (t675, true)))) else ((impl_put.f kj2 l0 a1_0 a1_1 a1_2 a1_3 a1_4 l1_5 a1_6 a1_7).bind fun t678 => (some (t678, true))))) else (none)) else (none)) else (if t673 < 0 then (if (l0.length : Int) ≥ 150 then (some (([] : List (S61)), false)) else ((impl_put.f kj2 l0 a1_0 a1_1 a1_2 a1_3 a1_4 l1_5 a1_6 a1_7).bind fun t681 => (some (t681, true)))) else ((impl_put.f kj2 l0 a1_0 a1_1 a1_2 a1_3 a1_4 l1_5 a1_6 a1_7).bind fun t684 => (some (t684, true)))))) = some (r1, r2) := by rw [if_neg (show ¬ (false = true) by decide)] at H; exact H
    clear H
    have H := H1
    clear H1
    replace H := Option.bind_eq_some_iff.mp H
    obtain ⟨t673, A130, H⟩ := H
    replace H : (if t673 ≥ 0 then (if 0 ≤ t673 then (if t673 < (l0.length : Int) then (if ((rd_T61 l0 t673).f4) ≥ a1_4 then (some (([] : List (S61)), false)) else (if t673 < 0 then (if (l0.length : Int) ≥ 150 then (some (([] : List (S61)), false)) else ((impl_put.f kj2 l0 a1_0 a1_1 a1_2 a1_3 a1_4 l1_5 a1_6 a1_7).bind fun t675 => (some (t675, true)))) else ((impl_put.f kj2 l0 a1_0 a1_1 a1_2 a1_3 a1_4 l1_5 a1_6 a1_7).bind fun t678 => (some (t678, true))))) else (none)) else (none)) else (if t673 < 0 then (if (l0.length : Int) ≥ 150 then (some (([] : List (S61)), false)) else ((impl_put.f kj2 l0 a1_0 a1_1 a1_2 a1_3 a1_4 l1_5 a1_6 a1_7).bind fun t681 => (some (t681, true)))) else ((impl_put.f kj2 l0 a1_0 a1_1 a1_2 a1_3 a1_4 l1_5 a1_6 a1_7).bind fun t684 => (some (t684, true))))) = some (r1, r2) := H
    have A13 := Aside0.mk A130
    clear A130
    by_cases c14 : t673 ≥ 0
    ·rw [if_pos c14] at H
     have c14b0 : decide (0 ≤ t673) = true := decide_eq_true c14
     clear c14
     by_cases c15 : 0 ≤ t673
     ·rw [if_pos c15] at H
      have c15b0 : decide (0 ≤ t673) = true := decide_eq_true c15
      clear c15
      by_cases c16 : t673 < (l0.length : Int)
      ·rw [if_pos c16] at H
       have c16b0 : decide (t673 < (l0.length : Int)) = true := decide_eq_true c16
       clear c16
       by_cases c17 : ((rd_T61 l0 t673).f4) ≥ a1_4
       ·rw [if_pos c17] at H
        have c17b0 : decide (a1_4 ≤ ((rd_T61 l0 t673).f4)) = true := decide_eq_true c17
        clear c17
        simp only [Option.some.injEq, Prod.mk.injEq] at H
        obtain ⟨rfl, rfl⟩ := H
        obtain ⟨hcz18_0, hcz18_1, hcz18_2, hcz18_3, hcz18_4, hcz18_5, hcz18_6, hcz18_7⟩ := cz8_ BK670
        obtain ⟨hfz18_0, hfz18_1, hfz18_2, hfz18_3, hfz18_4, hfz18_5, hfz18_6, hfz18_7⟩ := fz8_ BK670
        go_wp2_with (first | (go_at_call 107; (with_reducible refine (impl_keyAt.calls kj2 _ _ l0 a1_0 a1_1 a1_2 a1_3 a1_4 _ _ l1_5 a1_6 a1_7 t673 _ ?side1 ?side2 ?side3 ?side4 A13.out).mono ?_); (case side1 => exact cs_q (Kd.C_below HR0.out HB.out)); (case side2 => exact HC0.out); (case side3 => exact cs_q (Kd.C_below HR1_5.out HB.out)); (case side4 => exact HC1_5.out); rintro e w19 ⟨rfl, hb⟩; replace BK670 := Aside0.mk (blk_below (g := gb670) (bk_q BK670) hb); replace HB := Aside0.mk (below_step (bw_q HB) hb); (try clear hb); (try clear hb2); (try clear hk); (try clear hi); have p674 : 0 ≤ (t673 : Int) := of_decide_eq_true as_q; have q674 : t673 < (l0.length : Int) := of_decide_eq_true as_q; obtain ⟨ad674, A674_5, c674_5, e674, hx674_0, hx674_1, hx674_2, hx674_3, hx674_4, hx674_5, hx674_6, hx674_7, hl674_5, hi674_5⟩ := at_T61 HR0.out t673 p674 q674; cases e674; replace hx674_0 := (HB.out.cell (World.block_lt_of_cell? w _ hx674_0)).trans hx674_0; replace hx674_1 := (HB.out.cell (World.block_lt_of_cell? w _ hx674_1)).trans hx674_1; replace hx674_2 := (HB.out.cell (World.block_lt_of_cell? w _ hx674_2)).trans hx674_2; replace hx674_3 := (HB.out.cell (World.block_lt_of_cell? w _ hx674_3)).trans hx674_3; replace hx674_4 := (HB.out.cell (World.block_lt_of_cell? w _ hx674_4)).trans hx674_4; replace hx674_5 := (HB.out.cell (World.block_lt_of_cell? w _ hx674_5)).trans hx674_5; replace hx674_6 := (HB.out.cell (World.block_lt_of_cell? w _ hx674_6)).trans hx674_6; replace hx674_7 := (HB.out.cell (World.block_lt_of_cell? w _ hx674_7)).trans hx674_7; have HR674_5 := Aside0.mk hi674_5; have HC674_5 := Aside0.mk hl674_5; clear hi674_5 hl674_5; replace p674 := eq_true p674; replace q674 := eq_true q674; have hcz20_0 : w19.cell? ⟨gb670, 0, none⟩ = some (.int .i64 a1_0) := (blk_cell BK670.out 0).trans rfl; have hcz20_1 : w19.cell? ⟨gb670, 1, none⟩ = some (.int .i64 a1_1) := (blk_cell BK670.out 1).trans rfl; have hcz20_2 : w19.cell? ⟨gb670, 2, none⟩ = some (.int .i64 a1_2) := (blk_cell BK670.out 2).trans rfl; have hcz20_3 : w19.cell? ⟨gb670, 3, none⟩ = some (.int .i64 a1_3) := (blk_cell BK670.out 3).trans rfl; have hcz20_4 : w19.cell? ⟨gb670, 4, none⟩ = some (.int .i64 a1_4) := (blk_cell BK670.out 4).trans rfl; have hcz20_5 : w19.cell? ⟨gb670, 5, none⟩ = some (.slice A1_5 l1_5.length c1_5) := (blk_cell BK670.out 5).trans rfl; have hcz20_6 : w19.cell? ⟨gb670, 6, none⟩ = some (.int .i64 a1_6) := (blk_cell BK670.out 6).trans rfl; have hcz20_7 : w19.cell? ⟨gb670, 7, none⟩ = some (.bool a1_7) := (blk_cell BK670.out 7).trans rfl; have hfz20_0 := blk_frozen BK670.out 0; have hfz20_1 := blk_frozen BK670.out 1; have hfz20_2 := blk_frozen BK670.out 2; have hfz20_3 := blk_frozen BK670.out 3; have hfz20_4 := blk_frozen BK670.out 4; have hfz20_5 := blk_frozen BK670.out 5; have hfz20_6 := blk_frozen BK670.out 6; have hfz20_7 := blk_frozen BK670.out 7))
        repeat (go_quiet (first | (go_at_call 107; (with_reducible refine (impl_keyAt.calls kj2 _ _ l0 a1_0 a1_1 a1_2 a1_3 a1_4 _ _ l1_5 a1_6 a1_7 t673 _ ?side1 ?side2 ?side3 ?side4 A13.out).mono ?_); (case side1 => exact cs_q (Kd.C_below HR0.out HB.out)); (case side2 => exact HC0.out); (case side3 => exact cs_q (Kd.C_below HR1_5.out HB.out)); (case side4 => exact HC1_5.out); rintro e w19 ⟨rfl, hb⟩; replace BK670 := Aside0.mk (blk_below (g := gb670) (bk_q BK670) hb); replace HB := Aside0.mk (below_step (bw_q HB) hb); (try clear hb); (try clear hb2); (try clear hk); (try clear hi); have p674 : 0 ≤ (t673 : Int) := of_decide_eq_true as_q; have q674 : t673 < (l0.length : Int) := of_decide_eq_true as_q; obtain ⟨ad674, A674_5, c674_5, e674, hx674_0, hx674_1, hx674_2, hx674_3, hx674_4, hx674_5, hx674_6, hx674_7, hl674_5, hi674_5⟩ := at_T61 HR0.out t673 p674 q674; cases e674; replace hx674_0 := (HB.out.cell (World.block_lt_of_cell? w _ hx674_0)).trans hx674_0; replace hx674_1 := (HB.out.cell (World.block_lt_of_cell? w _ hx674_1)).trans hx674_1; replace hx674_2 := (HB.out.cell (World.block_lt_of_cell? w _ hx674_2)).trans hx674_2; replace hx674_3 := (HB.out.cell (World.block_lt_of_cell? w _ hx674_3)).trans hx674_3; replace hx674_4 := (HB.out.cell (World.block_lt_of_cell? w _ hx674_4)).trans hx674_4; replace hx674_5 := (HB.out.cell (World.block_lt_of_cell? w _ hx674_5)).trans hx674_5; replace hx674_6 := (HB.out.cell (World.block_lt_of_cell? w _ hx674_6)).trans hx674_6; replace hx674_7 := (HB.out.cell (World.block_lt_of_cell? w _ hx674_7)).trans hx674_7; have HR674_5 := Aside0.mk hi674_5; have HC674_5 := Aside0.mk hl674_5; clear hi674_5 hl674_5; replace p674 := eq_true p674; replace q674 := eq_true q674; have hcz20_0 : w19.cell? ⟨gb670, 0, none⟩ = some (.int .i64 a1_0) := (blk_cell BK670.out 0).trans rfl; have hcz20_1 : w19.cell? ⟨gb670, 1, none⟩ = some (.int .i64 a1_1) := (blk_cell BK670.out 1).trans rfl; have hcz20_2 : w19.cell? ⟨gb670, 2, none⟩ = some (.int .i64 a1_2) := (blk_cell BK670.out 2).trans rfl; have hcz20_3 : w19.cell? ⟨gb670, 3, none⟩ = some (.int .i64 a1_3) := (blk_cell BK670.out 3).trans rfl; have hcz20_4 : w19.cell? ⟨gb670, 4, none⟩ = some (.int .i64 a1_4) := (blk_cell BK670.out 4).trans rfl; have hcz20_5 : w19.cell? ⟨gb670, 5, none⟩ = some (.slice A1_5 l1_5.length c1_5) := (blk_cell BK670.out 5).trans rfl; have hcz20_6 : w19.cell? ⟨gb670, 6, none⟩ = some (.int .i64 a1_6) := (blk_cell BK670.out 6).trans rfl; have hcz20_7 : w19.cell? ⟨gb670, 7, none⟩ = some (.bool a1_7) := (blk_cell BK670.out 7).trans rfl; have hfz20_0 := blk_frozen BK670.out 0; have hfz20_1 := blk_frozen BK670.out 1; have hfz20_2 := blk_frozen BK670.out 2; have hfz20_3 := blk_frozen BK670.out 3; have hfz20_4 := blk_frozen BK670.out 4; have hfz20_5 := blk_frozen BK670.out 5; have hfz20_6 := blk_frozen BK670.out 6; have hfz20_7 := blk_frozen BK670.out 7)); try go_wp2_with (first | (go_at_call 107; (with_reducible refine (impl_keyAt.calls kj2 _ _ l0 a1_0 a1_1 a1_2 a1_3 a1_4 _ _ l1_5 a1_6 a1_7 t673 _ ?side1 ?side2 ?side3 ?side4 A13.out).mono ?_); (case side1 => exact cs_q (Kd.C_below HR0.out HB.out)); (case side2 => exact HC0.out); (case side3 => exact cs_q (Kd.C_below HR1_5.out HB.out)); (case side4 => exact HC1_5.out); rintro e w19 ⟨rfl, hb⟩; replace BK670 := Aside0.mk (blk_below (g := gb670) (bk_q BK670) hb); replace HB := Aside0.mk (below_step (bw_q HB) hb); (try clear hb); (try clear hb2); (try clear hk); (try clear hi); have p674 : 0 ≤ (t673 : Int) := of_decide_eq_true as_q; have q674 : t673 < (l0.length : Int) := of_decide_eq_true as_q; obtain ⟨ad674, A674_5, c674_5, e674, hx674_0, hx674_1, hx674_2, hx674_3, hx674_4, hx674_5, hx674_6, hx674_7, hl674_5, hi674_5⟩ := at_T61 HR0.out t673 p674 q674; cases e674; replace hx674_0 := (HB.out.cell (World.block_lt_of_cell? w _ hx674_0)).trans hx674_0; replace hx674_1 := (HB.out.cell (World.block_lt_of_cell? w _ hx674_1)).trans hx674_1; replace hx674_2 := (HB.out.cell (World.block_lt_of_cell? w _ hx674_2)).trans hx674_2; replace hx674_3 := (HB.out.cell (World.block_lt_of_cell? w _ hx674_3)).trans hx674_3; replace hx674_4 := (HB.out.cell (World.block_lt_of_cell? w _ hx674_4)).trans hx674_4; replace hx674_5 := (HB.out.cell (World.block_lt_of_cell? w _ hx674_5)).trans hx674_5; replace hx674_6 := (HB.out.cell (World.block_lt_of_cell? w _ hx674_6)).trans hx674_6; replace hx674_7 := (HB.out.cell (World.block_lt_of_cell? w _ hx674_7)).trans hx674_7; have HR674_5 := Aside0.mk hi674_5; have HC674_5 := Aside0.mk hl674_5; clear hi674_5 hl674_5; replace p674 := eq_true p674; replace q674 := eq_true q674; have hcz20_0 : w19.cell? ⟨gb670, 0, none⟩ = some (.int .i64 a1_0) := (blk_cell BK670.out 0).trans rfl; have hcz20_1 : w19.cell? ⟨gb670, 1, none⟩ = some (.int .i64 a1_1) := (blk_cell BK670.out 1).trans rfl; have hcz20_2 : w19.cell? ⟨gb670, 2, none⟩ = some (.int .i64 a1_2) := (blk_cell BK670.out 2).trans rfl; have hcz20_3 : w19.cell? ⟨gb670, 3, none⟩ = some (.int .i64 a1_3) := (blk_cell BK670.out 3).trans rfl; have hcz20_4 : w19.cell? ⟨gb670, 4, none⟩ = some (.int .i64 a1_4) := (blk_cell BK670.out 4).trans rfl; have hcz20_5 : w19.cell? ⟨gb670, 5, none⟩ = some (.slice A1_5 l1_5.length c1_5) := (blk_cell BK670.out 5).trans rfl; have hcz20_6 : w19.cell? ⟨gb670, 6, none⟩ = some (.int .i64 a1_6) := (blk_cell BK670.out 6).trans rfl; have hcz20_7 : w19.cell? ⟨gb670, 7, none⟩ = some (.bool a1_7) := (blk_cell BK670.out 7).trans rfl; have hfz20_0 := blk_frozen BK670.out 0; have hfz20_1 := blk_frozen BK670.out 1; have hfz20_2 := blk_frozen BK670.out 2; have hfz20_3 := blk_frozen BK670.out 3; have hfz20_4 := blk_frozen BK670.out 4; have hfz20_5 := blk_frozen BK670.out 5; have hfz20_6 := blk_frozen BK670.out 6; have hfz20_7 := blk_frozen BK670.out 7)))
        go_ret2
        exact ⟨_, er_q, by first | exact Kd.S_nil _ _ _ _ _ | exact Kd.N_nil _ _ _ _ _ | exact Kd.V_nil _ _ _ _ _ | exact Kd.Q_nil _ _ _ _ _ | exact Kd.R_nil _ _ _ _ _, bw_q HB⟩
       ·rw [if_neg c17] at H
        have c17b0 : decide (a1_4 ≤ ((rd_T61 l0 t673).f4)) = false := decide_eq_false c17
        clear c17
        by_cases c21 : t673 < 0
        ·rw [if_pos c21] at H
         have c21b0 : decide (t673 < 0) = true := decide_eq_true c21
         clear c21
         have HC22 := Aside0.mk H
         clear H
         obtain ⟨hcz23_0, hcz23_1, hcz23_2, hcz23_3, hcz23_4, hcz23_5, hcz23_6, hcz23_7⟩ := cz8_ BK670
         obtain ⟨hfz23_0, hfz23_1, hfz23_2, hfz23_3, hfz23_4, hfz23_5, hfz23_6, hfz23_7⟩ := fz8_ BK670
         go_upto_if 38 with (first | (go_at_call 107; (with_reducible refine (impl_keyAt.calls kj2 _ _ l0 a1_0 a1_1 a1_2 a1_3 a1_4 _ _ l1_5 a1_6 a1_7 t673 _ ?side1 ?side2 ?side3 ?side4 A13.out).mono ?_); (case side1 => exact cs_q (Kd.C_below HR0.out HB.out)); (case side2 => exact HC0.out); (case side3 => exact cs_q (Kd.C_below HR1_5.out HB.out)); (case side4 => exact HC1_5.out); rintro e w24 ⟨rfl, hb⟩; replace BK670 := Aside0.mk (blk_below (g := gb670) (bk_q BK670) hb); replace HB := Aside0.mk (below_step (bw_q HB) hb); (try clear hb); (try clear hb2); (try clear hk); (try clear hi); have p674 : 0 ≤ (t673 : Int) := of_decide_eq_true as_q; have q674 : t673 < (l0.length : Int) := of_decide_eq_true as_q; obtain ⟨ad674, A674_5, c674_5, e674, hx674_0, hx674_1, hx674_2, hx674_3, hx674_4, hx674_5, hx674_6, hx674_7, hl674_5, hi674_5⟩ := at_T61 HR0.out t673 p674 q674; cases e674; replace hx674_0 := (HB.out.cell (World.block_lt_of_cell? w _ hx674_0)).trans hx674_0; replace hx674_1 := (HB.out.cell (World.block_lt_of_cell? w _ hx674_1)).trans hx674_1; replace hx674_2 := (HB.out.cell (World.block_lt_of_cell? w _ hx674_2)).trans hx674_2; replace hx674_3 := (HB.out.cell (World.block_lt_of_cell? w _ hx674_3)).trans hx674_3; replace hx674_4 := (HB.out.cell (World.block_lt_of_cell? w _ hx674_4)).trans hx674_4; replace hx674_5 := (HB.out.cell (World.block_lt_of_cell? w _ hx674_5)).trans hx674_5; replace hx674_6 := (HB.out.cell (World.block_lt_of_cell? w _ hx674_6)).trans hx674_6; replace hx674_7 := (HB.out.cell (World.block_lt_of_cell? w _ hx674_7)).trans hx674_7; have HR674_5 := Aside0.mk hi674_5; have HC674_5 := Aside0.mk hl674_5; clear hi674_5 hl674_5; replace p674 := eq_true p674; replace q674 := eq_true q674; have hcz25_0 : w24.cell? ⟨gb670, 0, none⟩ = some (.int .i64 a1_0) := (blk_cell BK670.out 0).trans rfl; have hcz25_1 : w24.cell? ⟨gb670, 1, none⟩ = some (.int .i64 a1_1) := (blk_cell BK670.out 1).trans rfl; have hcz25_2 : w24.cell? ⟨gb670, 2, none⟩ = some (.int .i64 a1_2) := (blk_cell BK670.out 2).trans rfl; have hcz25_3 : w24.cell? ⟨gb670, 3, none⟩ = some (.int .i64 a1_3) := (blk_cell BK670.out 3).trans rfl; have hcz25_4 : w24.cell? ⟨gb670, 4, none⟩ = some (.int .i64 a1_4) := (blk_cell BK670.out 4).trans rfl; have hcz25_5 : w24.cell? ⟨gb670, 5, none⟩ = some (.slice A1_5 l1_5.length c1_5) := (blk_cell BK670.out 5).trans rfl; have hcz25_6 : w24.cell? ⟨gb670, 6, none⟩ = some (.int .i64 a1_6) := (blk_cell BK670.out 6).trans rfl; have hcz25_7 : w24.cell? ⟨gb670, 7, none⟩ = some (.bool a1_7) := (blk_cell BK670.out 7).trans rfl; have hfz25_0 := blk_frozen BK670.out 0; have hfz25_1 := blk_frozen BK670.out 1; have hfz25_2 := blk_frozen BK670.out 2; have hfz25_3 := blk_frozen BK670.out 3; have hfz25_4 := blk_frozen BK670.out 4; have hfz25_5 := blk_frozen BK670.out 5; have hfz25_6 := blk_frozen BK670.out 6; have hfz25_7 := blk_frozen BK670.out 7))
         repeat (go_quiet (first | (go_at_call 107; (with_reducible refine (impl_keyAt.calls kj2 _ _ l0 a1_0 a1_1 a1_2 a1_3 a1_4 _ _ l1_5 a1_6 a1_7 t673 _ ?side1 ?side2 ?side3 ?side4 A13.out).mono ?_); (case side1 => exact cs_q (Kd.C_below HR0.out HB.out)); (case side2 => exact HC0.out); (case side3 => exact cs_q (Kd.C_below HR1_5.out HB.out)); (case side4 => exact HC1_5.out); rintro e w24 ⟨rfl, hb⟩; replace BK670 := Aside0.mk (blk_below (g := gb670) (bk_q BK670) hb); replace HB := Aside0.mk (below_step (bw_q HB) hb); (try clear hb); (try clear hb2); (try clear hk); (try clear hi); have p674 : 0 ≤ (t673 : Int) := of_decide_eq_true as_q; have q674 : t673 < (l0.length : Int) := of_decide_eq_true as_q; obtain ⟨ad674, A674_5, c674_5, e674, hx674_0, hx674_1, hx674_2, hx674_3, hx674_4, hx674_5, hx674_6, hx674_7, hl674_5, hi674_5⟩ := at_T61 HR0.out t673 p674 q674; cases e674; replace hx674_0 := (HB.out.cell (World.block_lt_of_cell? w _ hx674_0)).trans hx674_0; replace hx674_1 := (HB.out.cell (World.block_lt_of_cell? w _ hx674_1)).trans hx674_1; replace hx674_2 := (HB.out.cell (World.block_lt_of_cell? w _ hx674_2)).trans hx674_2; replace hx674_3 := (HB.out.cell (World.block_lt_of_cell? w _ hx674_3)).trans hx674_3; replace hx674_4 := (HB.out.cell (World.block_lt_of_cell? w _ hx674_4)).trans hx674_4; replace hx674_5 := (HB.out.cell (World.block_lt_of_cell? w _ hx674_5)).trans hx674_5; replace hx674_6 := (HB.out.cell (World.block_lt_of_cell? w _ hx674_6)).trans hx674_6; replace hx674_7 := (HB.out.cell (World.block_lt_of_cell? w _ hx674_7)).trans hx674_7; have HR674_5 := Aside0.mk hi674_5; have HC674_5 := Aside0.mk hl674_5; clear hi674_5 hl674_5; replace p674 := eq_true p674; replace q674 := eq_true q674; have hcz25_0 : w24.cell? ⟨gb670, 0, none⟩ = some (.int .i64 a1_0) := (blk_cell BK670.out 0).trans rfl; have hcz25_1 : w24.cell? ⟨gb670, 1, none⟩ = some (.int .i64 a1_1) := (blk_cell BK670.out 1).trans rfl; have hcz25_2 : w24.cell? ⟨gb670, 2, none⟩ = some (.int .i64 a1_2) := (blk_cell BK670.out 2).trans rfl; have hcz25_3 : w24.cell? ⟨gb670, 3, none⟩ = some (.int .i64 a1_3) := (blk_cell BK670.out 3).trans rfl; have hcz25_4 : w24.cell? ⟨gb670, 4, none⟩ = some (.int .i64 a1_4) := (blk_cell BK670.out 4).trans rfl; have hcz25_5 : w24.cell? ⟨gb670, 5, none⟩ = some (.slice A1_5 l1_5.length c1_5) := (blk_cell BK670.out 5).trans rfl; have hcz25_6 : w24.cell? ⟨gb670, 6, none⟩ = some (.int .i64 a1_6) := (blk_cell BK670.out 6).trans rfl; have hcz25_7 : w24.cell? ⟨gb670, 7, none⟩ = some (.bool a1_7) := (blk_cell BK670.out 7).trans rfl; have hfz25_0 := blk_frozen BK670.out 0; have hfz25_1 := blk_frozen BK670.out 1; have hfz25_2 := blk_frozen BK670.out 2; have hfz25_3 := blk_frozen BK670.out 3; have hfz25_4 := blk_frozen BK670.out 4; have hfz25_5 := blk_frozen BK670.out 5; have hfz25_6 := blk_frozen BK670.out 6; have hfz25_7 := blk_frozen BK670.out 7)); go_upto_if 38 with (first | (go_at_call 107; (with_reducible refine (impl_keyAt.calls kj2 _ _ l0 a1_0 a1_1 a1_2 a1_3 a1_4 _ _ l1_5 a1_6 a1_7 t673 _ ?side1 ?side2 ?side3 ?side4 A13.out).mono ?_); (case side1 => exact cs_q (Kd.C_below HR0.out HB.out)); (case side2 => exact HC0.out); (case side3 => exact cs_q (Kd.C_below HR1_5.out HB.out)); (case side4 => exact HC1_5.out); rintro e w24 ⟨rfl, hb⟩; replace BK670 := Aside0.mk (blk_below (g := gb670) (bk_q BK670) hb); replace HB := Aside0.mk (below_step (bw_q HB) hb); (try clear hb); (try clear hb2); (try clear hk); (try clear hi); have p674 : 0 ≤ (t673 : Int) := of_decide_eq_true as_q; have q674 : t673 < (l0.length : Int) := of_decide_eq_true as_q; obtain ⟨ad674, A674_5, c674_5, e674, hx674_0, hx674_1, hx674_2, hx674_3, hx674_4, hx674_5, hx674_6, hx674_7, hl674_5, hi674_5⟩ := at_T61 HR0.out t673 p674 q674; cases e674; replace hx674_0 := (HB.out.cell (World.block_lt_of_cell? w _ hx674_0)).trans hx674_0; replace hx674_1 := (HB.out.cell (World.block_lt_of_cell? w _ hx674_1)).trans hx674_1; replace hx674_2 := (HB.out.cell (World.block_lt_of_cell? w _ hx674_2)).trans hx674_2; replace hx674_3 := (HB.out.cell (World.block_lt_of_cell? w _ hx674_3)).trans hx674_3; replace hx674_4 := (HB.out.cell (World.block_lt_of_cell? w _ hx674_4)).trans hx674_4; replace hx674_5 := (HB.out.cell (World.block_lt_of_cell? w _ hx674_5)).trans hx674_5; replace hx674_6 := (HB.out.cell (World.block_lt_of_cell? w _ hx674_6)).trans hx674_6; replace hx674_7 := (HB.out.cell (World.block_lt_of_cell? w _ hx674_7)).trans hx674_7; have HR674_5 := Aside0.mk hi674_5; have HC674_5 := Aside0.mk hl674_5; clear hi674_5 hl674_5; replace p674 := eq_true p674; replace q674 := eq_true q674; have hcz25_0 : w24.cell? ⟨gb670, 0, none⟩ = some (.int .i64 a1_0) := (blk_cell BK670.out 0).trans rfl; have hcz25_1 : w24.cell? ⟨gb670, 1, none⟩ = some (.int .i64 a1_1) := (blk_cell BK670.out 1).trans rfl; have hcz25_2 : w24.cell? ⟨gb670, 2, none⟩ = some (.int .i64 a1_2) := (blk_cell BK670.out 2).trans rfl; have hcz25_3 : w24.cell? ⟨gb670, 3, none⟩ = some (.int .i64 a1_3) := (blk_cell BK670.out 3).trans rfl; have hcz25_4 : w24.cell? ⟨gb670, 4, none⟩ = some (.int .i64 a1_4) := (blk_cell BK670.out 4).trans rfl; have hcz25_5 : w24.cell? ⟨gb670, 5, none⟩ = some (.slice A1_5 l1_5.length c1_5) := (blk_cell BK670.out 5).trans rfl; have hcz25_6 : w24.cell? ⟨gb670, 6, none⟩ = some (.int .i64 a1_6) := (blk_cell BK670.out 6).trans rfl; have hcz25_7 : w24.cell? ⟨gb670, 7, none⟩ = some (.bool a1_7) := (blk_cell BK670.out 7).trans rfl; have hfz25_0 := blk_frozen BK670.out 0; have hfz25_1 := blk_frozen BK670.out 1; have hfz25_2 := blk_frozen BK670.out 2; have hfz25_3 := blk_frozen BK670.out 3; have hfz25_4 := blk_frozen BK670.out 4; have hfz25_5 := blk_frozen BK670.out 5; have hfz25_6 := blk_frozen BK670.out 6; have hfz25_7 := blk_frozen BK670.out 7)))
         (try clear hx674_0); (try clear hx674_1); (try clear hx674_2); (try clear hx674_3); (try clear hx674_4); (try clear hx674_5); (try clear hx674_6); (try clear hx674_7)
         have H := HC22.out
         clear HC22
         by_cases c26 : (l0.length : Int) ≥ 150
         ·rw [if_pos c26] at H
          have c26b0 : decide (150 ≤ (l0.length : Int)) = true := decide_eq_true c26
          have c26b1 : decide (150 ≤ l0.length) = true := decide_eq_true (by omega)
          clear c26
          (first | rw [c26b0] | rw [c26b1] | (simp only [i64_w, i32_w]; first | rw [c26b0] | rw [c26b1]) | skip)
          simp only [Option.some.injEq, Prod.mk.injEq] at H
          obtain ⟨rfl, rfl⟩ := H
          go_wp2
          repeat (go_quiet (fail); try go_wp2)
          go_ret2
          exact ⟨_, er_q, by first | exact Kd.S_nil _ _ _ _ _ | exact Kd.N_nil _ _ _ _ _ | exact Kd.V_nil _ _ _ _ _ | exact Kd.Q_nil _ _ _ _ _ | exact Kd.R_nil _ _ _ _ _, bw_q HB⟩
         ·rw [if_neg c26] at H
          have c26b0 : decide (150 ≤ (l0.length : Int)) = false := decide_eq_false c26
          have c26b1 : decide (150 ≤ l0.length) = false := decide_eq_false (by omega)
          clear c26
          (first | rw [c26b0] | rw [c26b1] | (simp only [i64_w, i32_w]; first | rw [c26b0] | rw [c26b1]) | skip)
          replace H := Option.bind_eq_some_iff.mp H
          obtain ⟨t675, A270, H⟩ := H
          replace H : (some (t675, true)) = some (r1, r2) := H
          have A27 := Aside0.mk A270
          clear A270
          simp only [Option.some.injEq, Prod.mk.injEq] at H
          obtain ⟨rfl, rfl⟩ := H
          obtain ⟨hcz28_0, hcz28_1, hcz28_2, hcz28_3, hcz28_4, hcz28_5, hcz28_6, hcz28_7⟩ := cz8_ BK670
          obtain ⟨hfz28_0, hfz28_1, hfz28_2, hfz28_3, hfz28_4, hfz28_5, hfz28_6, hfz28_7⟩ := fz8_ BK670
          go_wp2_with (first | (go_at_call 111; (with_reducible refine (impl_put.calls kj2 _ _ l0 a1_0 a1_1 a1_2 a1_3 a1_4 _ _ l1_5 a1_6 a1_7 t675 _ ?side1 ?side2 ?side3 ?side4 A27.out).mono ?_); (case side1 => exact cs_q (Kd.C_below HR0.out HB.out)); (case side2 => exact HC0.out); (case side3 => exact cs_q (Kd.C_below HR1_5.out HB.out)); (case side4 => exact HC1_5.out); rintro e w29 ⟨v676, rfl, ho0, hb⟩; have HO677 := Aside0.mk (Kd.S_lower (Kd.S_newB ho0 (g := gb670) (o := .cells #[.int .i64 a1_0, .int .i64 a1_1, .int .i64 a1_2, .int .i64 a1_3, .int .i64 a1_4, .slice A1_5 l1_5.length c1_5, .int .i64 a1_6, .bool a1_7] 61 (0, 0)) (bk_q BK670)) (below_size (bw_q HB))); replace BK670 := Aside0.mk (blk_below (g := gb670) (bk_q BK670) hb); replace HB := Aside0.mk (below_step (bw_q HB) hb); (try clear hb); (try clear hb2); (try clear hk); (try clear hi); (try clear ho0)))
          repeat (go_quiet (first | (go_at_call 111; (with_reducible refine (impl_put.calls kj2 _ _ l0 a1_0 a1_1 a1_2 a1_3 a1_4 _ _ l1_5 a1_6 a1_7 t675 _ ?side1 ?side2 ?side3 ?side4 A27.out).mono ?_); (case side1 => exact cs_q (Kd.C_below HR0.out HB.out)); (case side2 => exact HC0.out); (case side3 => exact cs_q (Kd.C_below HR1_5.out HB.out)); (case side4 => exact HC1_5.out); rintro e w29 ⟨v676, rfl, ho0, hb⟩; have HO677 := Aside0.mk (Kd.S_lower (Kd.S_newB ho0 (g := gb670) (o := .cells #[.int .i64 a1_0, .int .i64 a1_1, .int .i64 a1_2, .int .i64 a1_3, .int .i64 a1_4, .slice A1_5 l1_5.length c1_5, .int .i64 a1_6, .bool a1_7] 61 (0, 0)) (bk_q BK670)) (below_size (bw_q HB))); replace BK670 := Aside0.mk (blk_below (g := gb670) (bk_q BK670) hb); replace HB := Aside0.mk (below_step (bw_q HB) hb); (try clear hb); (try clear hb2); (try clear hk); (try clear hi); (try clear ho0))); try go_wp2_with (first | (go_at_call 111; (with_reducible refine (impl_put.calls kj2 _ _ l0 a1_0 a1_1 a1_2 a1_3 a1_4 _ _ l1_5 a1_6 a1_7 t675 _ ?side1 ?side2 ?side3 ?side4 A27.out).mono ?_); (case side1 => exact cs_q (Kd.C_below HR0.out HB.out)); (case side2 => exact HC0.out); (case side3 => exact cs_q (Kd.C_below HR1_5.out HB.out)); (case side4 => exact HC1_5.out); rintro e w29 ⟨v676, rfl, ho0, hb⟩; have HO677 := Aside0.mk (Kd.S_lower (Kd.S_newB ho0 (g := gb670) (o := .cells #[.int .i64 a1_0, .int .i64 a1_1, .int .i64 a1_2, .int .i64 a1_3, .int .i64 a1_4, .slice A1_5 l1_5.length c1_5, .int .i64 a1_6, .bool a1_7] 61 (0, 0)) (bk_q BK670)) (below_size (bw_q HB))); replace BK670 := Aside0.mk (blk_below (g := gb670) (bk_q BK670) hb); replace HB := Aside0.mk (below_step (bw_q HB) hb); (try clear hb); (try clear hb2); (try clear hk); (try clear hi); (try clear ho0))))
          go_ret2
          exact ⟨_, er_q, by (with_reducible repeat (first | apply Kd.S_alloc | apply Kd.S_drewN | apply Kd.S_drew)); exact Kd.S_mono HO677.out (fun _ hk => trivial), bw_q HB⟩
        ·rw [if_neg c21] at H
         have c21b0 : decide (t673 < 0) = false := decide_eq_false c21
         clear c21
         have HC30 := Aside0.mk H
         clear H
         obtain ⟨hcz31_0, hcz31_1, hcz31_2, hcz31_3, hcz31_4, hcz31_5, hcz31_6, hcz31_7⟩ := cz8_ BK670
         obtain ⟨hfz31_0, hfz31_1, hfz31_2, hfz31_3, hfz31_4, hfz31_5, hfz31_6, hfz31_7⟩ := fz8_ BK670
         go_upto_if 38 with (first | (go_at_call 107; (with_reducible refine (impl_keyAt.calls kj2 _ _ l0 a1_0 a1_1 a1_2 a1_3 a1_4 _ _ l1_5 a1_6 a1_7 t673 _ ?side1 ?side2 ?side3 ?side4 A13.out).mono ?_); (case side1 => exact cs_q (Kd.C_below HR0.out HB.out)); (case side2 => exact HC0.out); (case side3 => exact cs_q (Kd.C_below HR1_5.out HB.out)); (case side4 => exact HC1_5.out); rintro e w32 ⟨rfl, hb⟩; replace BK670 := Aside0.mk (blk_below (g := gb670) (bk_q BK670) hb); replace HB := Aside0.mk (below_step (bw_q HB) hb); (try clear hb); (try clear hb2); (try clear hk); (try clear hi); have p674 : 0 ≤ (t673 : Int) := of_decide_eq_true as_q; have q674 : t673 < (l0.length : Int) := of_decide_eq_true as_q; obtain ⟨ad674, A674_5, c674_5, e674, hx674_0, hx674_1, hx674_2, hx674_3, hx674_4, hx674_5, hx674_6, hx674_7, hl674_5, hi674_5⟩ := at_T61 HR0.out t673 p674 q674; cases e674; replace hx674_0 := (HB.out.cell (World.block_lt_of_cell? w _ hx674_0)).trans hx674_0; replace hx674_1 := (HB.out.cell (World.block_lt_of_cell? w _ hx674_1)).trans hx674_1; replace hx674_2 := (HB.out.cell (World.block_lt_of_cell? w _ hx674_2)).trans hx674_2; replace hx674_3 := (HB.out.cell (World.block_lt_of_cell? w _ hx674_3)).trans hx674_3; replace hx674_4 := (HB.out.cell (World.block_lt_of_cell? w _ hx674_4)).trans hx674_4; replace hx674_5 := (HB.out.cell (World.block_lt_of_cell? w _ hx674_5)).trans hx674_5; replace hx674_6 := (HB.out.cell (World.block_lt_of_cell? w _ hx674_6)).trans hx674_6; replace hx674_7 := (HB.out.cell (World.block_lt_of_cell? w _ hx674_7)).trans hx674_7; have HR674_5 := Aside0.mk hi674_5; have HC674_5 := Aside0.mk hl674_5; clear hi674_5 hl674_5; replace p674 := eq_true p674; replace q674 := eq_true q674; have hcz33_0 : w32.cell? ⟨gb670, 0, none⟩ = some (.int .i64 a1_0) := (blk_cell BK670.out 0).trans rfl; have hcz33_1 : w32.cell? ⟨gb670, 1, none⟩ = some (.int .i64 a1_1) := (blk_cell BK670.out 1).trans rfl; have hcz33_2 : w32.cell? ⟨gb670, 2, none⟩ = some (.int .i64 a1_2) := (blk_cell BK670.out 2).trans rfl; have hcz33_3 : w32.cell? ⟨gb670, 3, none⟩ = some (.int .i64 a1_3) := (blk_cell BK670.out 3).trans rfl; have hcz33_4 : w32.cell? ⟨gb670, 4, none⟩ = some (.int .i64 a1_4) := (blk_cell BK670.out 4).trans rfl; have hcz33_5 : w32.cell? ⟨gb670, 5, none⟩ = some (.slice A1_5 l1_5.length c1_5) := (blk_cell BK670.out 5).trans rfl; have hcz33_6 : w32.cell? ⟨gb670, 6, none⟩ = some (.int .i64 a1_6) := (blk_cell BK670.out 6).trans rfl; have hcz33_7 : w32.cell? ⟨gb670, 7, none⟩ = some (.bool a1_7) := (blk_cell BK670.out 7).trans rfl; have hfz33_0 := blk_frozen BK670.out 0; have hfz33_1 := blk_frozen BK670.out 1; have hfz33_2 := blk_frozen BK670.out 2; have hfz33_3 := blk_frozen BK670.out 3; have hfz33_4 := blk_frozen BK670.out 4; have hfz33_5 := blk_frozen BK670.out 5; have hfz33_6 := blk_frozen BK670.out 6; have hfz33_7 := blk_frozen BK670.out 7))
         repeat (go_quiet (first | (go_at_call 107; (with_reducible refine (impl_keyAt.calls kj2 _ _ l0 a1_0 a1_1 a1_2 a1_3 a1_4 _ _ l1_5 a1_6 a1_7 t673 _ ?side1 ?side2 ?side3 ?side4 A13.out).mono ?_); (case side1 => exact cs_q (Kd.C_below HR0.out HB.out)); (case side2 => exact HC0.out); (case side3 => exact cs_q (Kd.C_below HR1_5.out HB.out)); (case side4 => exact HC1_5.out); rintro e w32 ⟨rfl, hb⟩; replace BK670 := Aside0.mk (blk_below (g := gb670) (bk_q BK670) hb); replace HB := Aside0.mk (below_step (bw_q HB) hb); (try clear hb); (try clear hb2); (try clear hk); (try clear hi); have p674 : 0 ≤ (t673 : Int) := of_decide_eq_true as_q; have q674 : t673 < (l0.length : Int) := of_decide_eq_true as_q; obtain ⟨ad674, A674_5, c674_5, e674, hx674_0, hx674_1, hx674_2, hx674_3, hx674_4, hx674_5, hx674_6, hx674_7, hl674_5, hi674_5⟩ := at_T61 HR0.out t673 p674 q674; cases e674; replace hx674_0 := (HB.out.cell (World.block_lt_of_cell? w _ hx674_0)).trans hx674_0; replace hx674_1 := (HB.out.cell (World.block_lt_of_cell? w _ hx674_1)).trans hx674_1; replace hx674_2 := (HB.out.cell (World.block_lt_of_cell? w _ hx674_2)).trans hx674_2; replace hx674_3 := (HB.out.cell (World.block_lt_of_cell? w _ hx674_3)).trans hx674_3; replace hx674_4 := (HB.out.cell (World.block_lt_of_cell? w _ hx674_4)).trans hx674_4; replace hx674_5 := (HB.out.cell (World.block_lt_of_cell? w _ hx674_5)).trans hx674_5; replace hx674_6 := (HB.out.cell (World.block_lt_of_cell? w _ hx674_6)).trans hx674_6; replace hx674_7 := (HB.out.cell (World.block_lt_of_cell? w _ hx674_7)).trans hx674_7; have HR674_5 := Aside0.mk hi674_5; have HC674_5 := Aside0.mk hl674_5; clear hi674_5 hl674_5; replace p674 := eq_true p674; replace q674 := eq_true q674; have hcz33_0 : w32.cell? ⟨gb670, 0, none⟩ = some (.int .i64 a1_0) := (blk_cell BK670.out 0).trans rfl; have hcz33_1 : w32.cell? ⟨gb670, 1, none⟩ = some (.int .i64 a1_1) := (blk_cell BK670.out 1).trans rfl; have hcz33_2 : w32.cell? ⟨gb670, 2, none⟩ = some (.int .i64 a1_2) := (blk_cell BK670.out 2).trans rfl; have hcz33_3 : w32.cell? ⟨gb670, 3, none⟩ = some (.int .i64 a1_3) := (blk_cell BK670.out 3).trans rfl; have hcz33_4 : w32.cell? ⟨gb670, 4, none⟩ = some (.int .i64 a1_4) := (blk_cell BK670.out 4).trans rfl; have hcz33_5 : w32.cell? ⟨gb670, 5, none⟩ = some (.slice A1_5 l1_5.length c1_5) := (blk_cell BK670.out 5).trans rfl; have hcz33_6 : w32.cell? ⟨gb670, 6, none⟩ = some (.int .i64 a1_6) := (blk_cell BK670.out 6).trans rfl; have hcz33_7 : w32.cell? ⟨gb670, 7, none⟩ = some (.bool a1_7) := (blk_cell BK670.out 7).trans rfl; have hfz33_0 := blk_frozen BK670.out 0; have hfz33_1 := blk_frozen BK670.out 1; have hfz33_2 := blk_frozen BK670.out 2; have hfz33_3 := blk_frozen BK670.out 3; have hfz33_4 := blk_frozen BK670.out 4; have hfz33_5 := blk_frozen BK670.out 5; have hfz33_6 := blk_frozen BK670.out 6; have hfz33_7 := blk_frozen BK670.out 7)); go_upto_if 38 with (first | (go_at_call 107; (with_reducible refine (impl_keyAt.calls kj2 _ _ l0 a1_0 a1_1 a1_2 a1_3 a1_4 _ _ l1_5 a1_6 a1_7 t673 _ ?side1 ?side2 ?side3 ?side4 A13.out).mono ?_); (case side1 => exact cs_q (Kd.C_below HR0.out HB.out)); (case side2 => exact HC0.out); (case side3 => exact cs_q (Kd.C_below HR1_5.out HB.out)); (case side4 => exact HC1_5.out); rintro e w32 ⟨rfl, hb⟩; replace BK670 := Aside0.mk (blk_below (g := gb670) (bk_q BK670) hb); replace HB := Aside0.mk (below_step (bw_q HB) hb); (try clear hb); (try clear hb2); (try clear hk); (try clear hi); have p674 : 0 ≤ (t673 : Int) := of_decide_eq_true as_q; have q674 : t673 < (l0.length : Int) := of_decide_eq_true as_q; obtain ⟨ad674, A674_5, c674_5, e674, hx674_0, hx674_1, hx674_2, hx674_3, hx674_4, hx674_5, hx674_6, hx674_7, hl674_5, hi674_5⟩ := at_T61 HR0.out t673 p674 q674; cases e674; replace hx674_0 := (HB.out.cell (World.block_lt_of_cell? w _ hx674_0)).trans hx674_0; replace hx674_1 := (HB.out.cell (World.block_lt_of_cell? w _ hx674_1)).trans hx674_1; replace hx674_2 := (HB.out.cell (World.block_lt_of_cell? w _ hx674_2)).trans hx674_2; replace hx674_3 := (HB.out.cell (World.block_lt_of_cell? w _ hx674_3)).trans hx674_3; replace hx674_4 := (HB.out.cell (World.block_lt_of_cell? w _ hx674_4)).trans hx674_4; replace hx674_5 := (HB.out.cell (World.block_lt_of_cell? w _ hx674_5)).trans hx674_5; replace hx674_6 := (HB.out.cell (World.block_lt_of_cell? w _ hx674_6)).trans hx674_6; replace hx674_7 := (HB.out.cell (World.block_lt_of_cell? w _ hx674_7)).trans hx674_7; have HR674_5 := Aside0.mk hi674_5; have HC674_5 := Aside0.mk hl674_5; clear hi674_5 hl674_5; replace p674 := eq_true p674; replace q674 := eq_true q674; have hcz33_0 : w32.cell? ⟨gb670, 0, none⟩ = some (.int .i64 a1_0) := (blk_cell BK670.out 0).trans rfl; have hcz33_1 : w32.cell? ⟨gb670, 1, none⟩ = some (.int .i64 a1_1) := (blk_cell BK670.out 1).trans rfl; have hcz33_2 : w32.cell? ⟨gb670, 2, none⟩ = some (.int .i64 a1_2) := (blk_cell BK670.out 2).trans rfl; have hcz33_3 : w32.cell? ⟨gb670, 3, none⟩ = some (.int .i64 a1_3) := (blk_cell BK670.out 3).trans rfl; have hcz33_4 : w32.cell? ⟨gb670, 4, none⟩ = some (.int .i64 a1_4) := (blk_cell BK670.out 4).trans rfl; have hcz33_5 : w32.cell? ⟨gb670, 5, none⟩ = some (.slice A1_5 l1_5.length c1_5) := (blk_cell BK670.out 5).trans rfl; have hcz33_6 : w32.cell? ⟨gb670, 6, none⟩ = some (.int .i64 a1_6) := (blk_cell BK670.out 6).trans rfl; have hcz33_7 : w32.cell? ⟨gb670, 7, none⟩ = some (.bool a1_7) := (blk_cell BK670.out 7).trans rfl; have hfz33_0 := blk_frozen BK670.out 0; have hfz33_1 := blk_frozen BK670.out 1; have hfz33_2 := blk_frozen BK670.out 2; have hfz33_3 := blk_frozen BK670.out 3; have hfz33_4 := blk_frozen BK670.out 4; have hfz33_5 := blk_frozen BK670.out 5; have hfz33_6 := blk_frozen BK670.out 6; have hfz33_7 := blk_frozen BK670.out 7)))
         (try clear hx674_0); (try clear hx674_1); (try clear hx674_2); (try clear hx674_3); (try clear hx674_4); (try clear hx674_5); (try clear hx674_6); (try clear hx674_7)
         have H := HC30.out
         clear HC30
         replace H := Option.bind_eq_some_iff.mp H
         obtain ⟨t678, A340, H⟩ := H
         replace H : (some (t678, true)) = some (r1, r2) := H
         have A34 := Aside0.mk A340
         clear A340
         simp only [Option.some.injEq, Prod.mk.injEq] at H
         obtain ⟨rfl, rfl⟩ := H
         obtain ⟨hcz35_0, hcz35_1, hcz35_2, hcz35_3, hcz35_4, hcz35_5, hcz35_6, hcz35_7⟩ := cz8_ BK670
         obtain ⟨hfz35_0, hfz35_1, hfz35_2, hfz35_3, hfz35_4, hfz35_5, hfz35_6, hfz35_7⟩ := fz8_ BK670
         go_wp2_with (first | (go_at_call 111; (with_reducible refine (impl_put.calls kj2 _ _ l0 a1_0 a1_1 a1_2 a1_3 a1_4 _ _ l1_5 a1_6 a1_7 t678 _ ?side1 ?side2 ?side3 ?side4 A34.out).mono ?_); (case side1 => exact cs_q (Kd.C_below HR0.out HB.out)); (case side2 => exact HC0.out); (case side3 => exact cs_q (Kd.C_below HR1_5.out HB.out)); (case side4 => exact HC1_5.out); rintro e w36 ⟨v679, rfl, ho0, hb⟩; have HO680 := Aside0.mk (Kd.S_lower (Kd.S_newB ho0 (g := gb670) (o := .cells #[.int .i64 a1_0, .int .i64 a1_1, .int .i64 a1_2, .int .i64 a1_3, .int .i64 a1_4, .slice A1_5 l1_5.length c1_5, .int .i64 a1_6, .bool a1_7] 61 (0, 0)) (bk_q BK670)) (below_size (bw_q HB))); replace BK670 := Aside0.mk (blk_below (g := gb670) (bk_q BK670) hb); replace HB := Aside0.mk (below_step (bw_q HB) hb); (try clear hb); (try clear hb2); (try clear hk); (try clear hi); (try clear ho0)))
         repeat (go_quiet (first | (go_at_call 111; (with_reducible refine (impl_put.calls kj2 _ _ l0 a1_0 a1_1 a1_2 a1_3 a1_4 _ _ l1_5 a1_6 a1_7 t678 _ ?side1 ?side2 ?side3 ?side4 A34.out).mono ?_); (case side1 => exact cs_q (Kd.C_below HR0.out HB.out)); (case side2 => exact HC0.out); (case side3 => exact cs_q (Kd.C_below HR1_5.out HB.out)); (case side4 => exact HC1_5.out); rintro e w36 ⟨v679, rfl, ho0, hb⟩; have HO680 := Aside0.mk (Kd.S_lower (Kd.S_newB ho0 (g := gb670) (o := .cells #[.int .i64 a1_0, .int .i64 a1_1, .int .i64 a1_2, .int .i64 a1_3, .int .i64 a1_4, .slice A1_5 l1_5.length c1_5, .int .i64 a1_6, .bool a1_7] 61 (0, 0)) (bk_q BK670)) (below_size (bw_q HB))); replace BK670 := Aside0.mk (blk_below (g := gb670) (bk_q BK670) hb); replace HB := Aside0.mk (below_step (bw_q HB) hb); (try clear hb); (try clear hb2); (try clear hk); (try clear hi); (try clear ho0))); try go_wp2_with (first | (go_at_call 111; (with_reducible refine (impl_put.calls kj2 _ _ l0 a1_0 a1_1 a1_2 a1_3 a1_4 _ _ l1_5 a1_6 a1_7 t678 _ ?side1 ?side2 ?side3 ?side4 A34.out).mono ?_); (case side1 => exact cs_q (Kd.C_below HR0.out HB.out)); (case side2 => exact HC0.out); (case side3 => exact cs_q (Kd.C_below HR1_5.out HB.out)); (case side4 => exact HC1_5.out); rintro e w36 ⟨v679, rfl, ho0, hb⟩; have HO680 := Aside0.mk (Kd.S_lower (Kd.S_newB ho0 (g := gb670) (o := .cells #[.int .i64 a1_0, .int .i64 a1_1, .int .i64 a1_2, .int .i64 a1_3, .int .i64 a1_4, .slice A1_5 l1_5.length c1_5, .int .i64 a1_6, .bool a1_7] 61 (0, 0)) (bk_q BK670)) (below_size (bw_q HB))); replace BK670 := Aside0.mk (blk_below (g := gb670) (bk_q BK670) hb); replace HB := Aside0.mk (below_step (bw_q HB) hb); (try clear hb); (try clear hb2); (try clear hk); (try clear hi); (try clear ho0))))
         go_ret2
         exact ⟨_, er_q, by (with_reducible repeat (first | apply Kd.S_alloc | apply Kd.S_drewN | apply Kd.S_drew)); exact Kd.S_mono HO680.out (fun _ hk => trivial), bw_q HB⟩
      ·rw [if_neg c16] at H
       exact absurd H (by simp)
     ·rw [if_neg c15] at H
      exact absurd H (by simp)
    ·rw [if_neg c14] at H
     have c14b0 : decide (0 ≤ t673) = false := decide_eq_false c14
     clear c14
     by_cases c37 : t673 < 0
     ·rw [if_pos c37] at H
      have c37b0 : decide (t673 < 0) = true := decide_eq_true c37
      clear c37
      have HC38 := Aside0.mk H
      clear H
      obtain ⟨hcz39_0, hcz39_1, hcz39_2, hcz39_3, hcz39_4, hcz39_5, hcz39_6, hcz39_7⟩ := cz8_ BK670
      obtain ⟨hfz39_0, hfz39_1, hfz39_2, hfz39_3, hfz39_4, hfz39_5, hfz39_6, hfz39_7⟩ := fz8_ BK670
      go_upto_if 38 with (first | (go_at_call 107; (with_reducible refine (impl_keyAt.calls kj2 _ _ l0 a1_0 a1_1 a1_2 a1_3 a1_4 _ _ l1_5 a1_6 a1_7 t673 _ ?side1 ?side2 ?side3 ?side4 A13.out).mono ?_); (case side1 => exact cs_q (Kd.C_below HR0.out HB.out)); (case side2 => exact HC0.out); (case side3 => exact cs_q (Kd.C_below HR1_5.out HB.out)); (case side4 => exact HC1_5.out); rintro e w40 ⟨rfl, hb⟩; replace BK670 := Aside0.mk (blk_below (g := gb670) (bk_q BK670) hb); replace HB := Aside0.mk (below_step (bw_q HB) hb); (try clear hb); (try clear hb2); (try clear hk); (try clear hi)))
      repeat (go_quiet (first | (go_at_call 107; (with_reducible refine (impl_keyAt.calls kj2 _ _ l0 a1_0 a1_1 a1_2 a1_3 a1_4 _ _ l1_5 a1_6 a1_7 t673 _ ?side1 ?side2 ?side3 ?side4 A13.out).mono ?_); (case side1 => exact cs_q (Kd.C_below HR0.out HB.out)); (case side2 => exact HC0.out); (case side3 => exact cs_q (Kd.C_below HR1_5.out HB.out)); (case side4 => exact HC1_5.out); rintro e w40 ⟨rfl, hb⟩; replace BK670 := Aside0.mk (blk_below (g := gb670) (bk_q BK670) hb); replace HB := Aside0.mk (below_step (bw_q HB) hb); (try clear hb); (try clear hb2); (try clear hk); (try clear hi))); go_upto_if 38 with (first | (go_at_call 107; (with_reducible refine (impl_keyAt.calls kj2 _ _ l0 a1_0 a1_1 a1_2 a1_3 a1_4 _ _ l1_5 a1_6 a1_7 t673 _ ?side1 ?side2 ?side3 ?side4 A13.out).mono ?_); (case side1 => exact cs_q (Kd.C_below HR0.out HB.out)); (case side2 => exact HC0.out); (case side3 => exact cs_q (Kd.C_below HR1_5.out HB.out)); (case side4 => exact HC1_5.out); rintro e w40 ⟨rfl, hb⟩; replace BK670 := Aside0.mk (blk_below (g := gb670) (bk_q BK670) hb); replace HB := Aside0.mk (below_step (bw_q HB) hb); (try clear hb); (try clear hb2); (try clear hk); (try clear hi))))
      have H := HC38.out
      clear HC38
      by_cases c41 : (l0.length : Int) ≥ 150
      ·rw [if_pos c41] at H
       have c41b0 : decide (150 ≤ (l0.length : Int)) = true := decide_eq_true c41
       have c41b1 : decide (150 ≤ l0.length) = true := decide_eq_true (by omega)
       clear c41
       (first | rw [c41b0] | rw [c41b1] | (simp only [i64_w, i32_w]; first | rw [c41b0] | rw [c41b1]) | skip)
       simp only [Option.some.injEq, Prod.mk.injEq] at H
       obtain ⟨rfl, rfl⟩ := H
       go_wp2
       repeat (go_quiet (fail); try go_wp2)
       go_ret2
       exact ⟨_, er_q, by first | exact Kd.S_nil _ _ _ _ _ | exact Kd.N_nil _ _ _ _ _ | exact Kd.V_nil _ _ _ _ _ | exact Kd.Q_nil _ _ _ _ _ | exact Kd.R_nil _ _ _ _ _, bw_q HB⟩
      ·rw [if_neg c41] at H
       have c41b0 : decide (150 ≤ (l0.length : Int)) = false := decide_eq_false c41
       have c41b1 : decide (150 ≤ l0.length) = false := decide_eq_false (by omega)
       clear c41
       (first | rw [c41b0] | rw [c41b1] | (simp only [i64_w, i32_w]; first | rw [c41b0] | rw [c41b1]) | skip)
       replace H := Option.bind_eq_some_iff.mp H
       obtain ⟨t681, A420, H⟩ := H
       replace H : (some (t681, true)) = some (r1, r2) := H
       have A42 := Aside0.mk A420
       clear A420
       simp only [Option.some.injEq, Prod.mk.injEq] at H
       obtain ⟨rfl, rfl⟩ := H
       obtain ⟨hcz43_0, hcz43_1, hcz43_2, hcz43_3, hcz43_4, hcz43_5, hcz43_6, hcz43_7⟩ := cz8_ BK670
       obtain ⟨hfz43_0, hfz43_1, hfz43_2, hfz43_3, hfz43_4, hfz43_5, hfz43_6, hfz43_7⟩ := fz8_ BK670
       go_wp2_with (first | (go_at_call 111; (with_reducible refine (impl_put.calls kj2 _ _ l0 a1_0 a1_1 a1_2 a1_3 a1_4 _ _ l1_5 a1_6 a1_7 t681 _ ?side1 ?side2 ?side3 ?side4 A42.out).mono ?_); (case side1 => exact cs_q (Kd.C_below HR0.out HB.out)); (case side2 => exact HC0.out); (case side3 => exact cs_q (Kd.C_below HR1_5.out HB.out)); (case side4 => exact HC1_5.out); rintro e w44 ⟨v682, rfl, ho0, hb⟩; have HO683 := Aside0.mk (Kd.S_lower (Kd.S_newB ho0 (g := gb670) (o := .cells #[.int .i64 a1_0, .int .i64 a1_1, .int .i64 a1_2, .int .i64 a1_3, .int .i64 a1_4, .slice A1_5 l1_5.length c1_5, .int .i64 a1_6, .bool a1_7] 61 (0, 0)) (bk_q BK670)) (below_size (bw_q HB))); replace BK670 := Aside0.mk (blk_below (g := gb670) (bk_q BK670) hb); replace HB := Aside0.mk (below_step (bw_q HB) hb); (try clear hb); (try clear hb2); (try clear hk); (try clear hi); (try clear ho0)))
       repeat (go_quiet (first | (go_at_call 111; (with_reducible refine (impl_put.calls kj2 _ _ l0 a1_0 a1_1 a1_2 a1_3 a1_4 _ _ l1_5 a1_6 a1_7 t681 _ ?side1 ?side2 ?side3 ?side4 A42.out).mono ?_); (case side1 => exact cs_q (Kd.C_below HR0.out HB.out)); (case side2 => exact HC0.out); (case side3 => exact cs_q (Kd.C_below HR1_5.out HB.out)); (case side4 => exact HC1_5.out); rintro e w44 ⟨v682, rfl, ho0, hb⟩; have HO683 := Aside0.mk (Kd.S_lower (Kd.S_newB ho0 (g := gb670) (o := .cells #[.int .i64 a1_0, .int .i64 a1_1, .int .i64 a1_2, .int .i64 a1_3, .int .i64 a1_4, .slice A1_5 l1_5.length c1_5, .int .i64 a1_6, .bool a1_7] 61 (0, 0)) (bk_q BK670)) (below_size (bw_q HB))); replace BK670 := Aside0.mk (blk_below (g := gb670) (bk_q BK670) hb); replace HB := Aside0.mk (below_step (bw_q HB) hb); (try clear hb); (try clear hb2); (try clear hk); (try clear hi); (try clear ho0))); try go_wp2_with (first | (go_at_call 111; (with_reducible refine (impl_put.calls kj2 _ _ l0 a1_0 a1_1 a1_2 a1_3 a1_4 _ _ l1_5 a1_6 a1_7 t681 _ ?side1 ?side2 ?side3 ?side4 A42.out).mono ?_); (case side1 => exact cs_q (Kd.C_below HR0.out HB.out)); (case side2 => exact HC0.out); (case side3 => exact cs_q (Kd.C_below HR1_5.out HB.out)); (case side4 => exact HC1_5.out); rintro e w44 ⟨v682, rfl, ho0, hb⟩; have HO683 := Aside0.mk (Kd.S_lower (Kd.S_newB ho0 (g := gb670) (o := .cells #[.int .i64 a1_0, .int .i64 a1_1, .int .i64 a1_2, .int .i64 a1_3, .int .i64 a1_4, .slice A1_5 l1_5.length c1_5, .int .i64 a1_6, .bool a1_7] 61 (0, 0)) (bk_q BK670)) (below_size (bw_q HB))); replace BK670 := Aside0.mk (blk_below (g := gb670) (bk_q BK670) hb); replace HB := Aside0.mk (below_step (bw_q HB) hb); (try clear hb); (try clear hb2); (try clear hk); (try clear hi); (try clear ho0))))
       go_ret2
       exact ⟨_, er_q, by (with_reducible repeat (first | apply Kd.S_alloc | apply Kd.S_drewN | apply Kd.S_drew)); exact Kd.S_mono HO683.out (fun _ hk => trivial), bw_q HB⟩
     ·rw [if_neg c37] at H
      have c37b0 : decide (t673 < 0) = false := decide_eq_false c37
      clear c37
      have HC45 := Aside0.mk H
      clear H
      obtain ⟨hcz46_0, hcz46_1, hcz46_2, hcz46_3, hcz46_4, hcz46_5, hcz46_6, hcz46_7⟩ := cz8_ BK670
      obtain ⟨hfz46_0, hfz46_1, hfz46_2, hfz46_3, hfz46_4, hfz46_5, hfz46_6, hfz46_7⟩ := fz8_ BK670
      go_upto_if 38 with (first | (go_at_call 107; (with_reducible refine (impl_keyAt.calls kj2 _ _ l0 a1_0 a1_1 a1_2 a1_3 a1_4 _ _ l1_5 a1_6 a1_7 t673 _ ?side1 ?side2 ?side3 ?side4 A13.out).mono ?_); (case side1 => exact cs_q (Kd.C_below HR0.out HB.out)); (case side2 => exact HC0.out); (case side3 => exact cs_q (Kd.C_below HR1_5.out HB.out)); (case side4 => exact HC1_5.out); rintro e w47 ⟨rfl, hb⟩; replace BK670 := Aside0.mk (blk_below (g := gb670) (bk_q BK670) hb); replace HB := Aside0.mk (below_step (bw_q HB) hb); (try clear hb); (try clear hb2); (try clear hk); (try clear hi)))
      repeat (go_quiet (first | (go_at_call 107; (with_reducible refine (impl_keyAt.calls kj2 _ _ l0 a1_0 a1_1 a1_2 a1_3 a1_4 _ _ l1_5 a1_6 a1_7 t673 _ ?side1 ?side2 ?side3 ?side4 A13.out).mono ?_); (case side1 => exact cs_q (Kd.C_below HR0.out HB.out)); (case side2 => exact HC0.out); (case side3 => exact cs_q (Kd.C_below HR1_5.out HB.out)); (case side4 => exact HC1_5.out); rintro e w47 ⟨rfl, hb⟩; replace BK670 := Aside0.mk (blk_below (g := gb670) (bk_q BK670) hb); replace HB := Aside0.mk (below_step (bw_q HB) hb); (try clear hb); (try clear hb2); (try clear hk); (try clear hi))); go_upto_if 38 with (first | (go_at_call 107; (with_reducible refine (impl_keyAt.calls kj2 _ _ l0 a1_0 a1_1 a1_2 a1_3 a1_4 _ _ l1_5 a1_6 a1_7 t673 _ ?side1 ?side2 ?side3 ?side4 A13.out).mono ?_); (case side1 => exact cs_q (Kd.C_below HR0.out HB.out)); (case side2 => exact HC0.out); (case side3 => exact cs_q (Kd.C_below HR1_5.out HB.out)); (case side4 => exact HC1_5.out); rintro e w47 ⟨rfl, hb⟩; replace BK670 := Aside0.mk (blk_below (g := gb670) (bk_q BK670) hb); replace HB := Aside0.mk (below_step (bw_q HB) hb); (try clear hb); (try clear hb2); (try clear hk); (try clear hi))))
      have H := HC45.out
      clear HC45
      replace H := Option.bind_eq_some_iff.mp H
      obtain ⟨t684, A480, H⟩ := H
      replace H : (some (t684, true)) = some (r1, r2) := H
      have A48 := Aside0.mk A480
      clear A480
      simp only [Option.some.injEq, Prod.mk.injEq] at H
      obtain ⟨rfl, rfl⟩ := H
      obtain ⟨hcz49_0, hcz49_1, hcz49_2, hcz49_3, hcz49_4, hcz49_5, hcz49_6, hcz49_7⟩ := cz8_ BK670
      obtain ⟨hfz49_0, hfz49_1, hfz49_2, hfz49_3, hfz49_4, hfz49_5, hfz49_6, hfz49_7⟩ := fz8_ BK670
      go_wp2_with (first | (go_at_call 111; (with_reducible refine (impl_put.calls kj2 _ _ l0 a1_0 a1_1 a1_2 a1_3 a1_4 _ _ l1_5 a1_6 a1_7 t684 _ ?side1 ?side2 ?side3 ?side4 A48.out).mono ?_); (case side1 => exact cs_q (Kd.C_below HR0.out HB.out)); (case side2 => exact HC0.out); (case side3 => exact cs_q (Kd.C_below HR1_5.out HB.out)); (case side4 => exact HC1_5.out); rintro e w50 ⟨v685, rfl, ho0, hb⟩; have HO686 := Aside0.mk (Kd.S_lower (Kd.S_newB ho0 (g := gb670) (o := .cells #[.int .i64 a1_0, .int .i64 a1_1, .int .i64 a1_2, .int .i64 a1_3, .int .i64 a1_4, .slice A1_5 l1_5.length c1_5, .int .i64 a1_6, .bool a1_7] 61 (0, 0)) (bk_q BK670)) (below_size (bw_q HB))); replace BK670 := Aside0.mk (blk_below (g := gb670) (bk_q BK670) hb); replace HB := Aside0.mk (below_step (bw_q HB) hb); (try clear hb); (try clear hb2); (try clear hk); (try clear hi); (try clear ho0)))
      repeat (go_quiet (first | (go_at_call 111; (with_reducible refine (impl_put.calls kj2 _ _ l0 a1_0 a1_1 a1_2 a1_3 a1_4 _ _ l1_5 a1_6 a1_7 t684 _ ?side1 ?side2 ?side3 ?side4 A48.out).mono ?_); (case side1 => exact cs_q (Kd.C_below HR0.out HB.out)); (case side2 => exact HC0.out); (case side3 => exact cs_q (Kd.C_below HR1_5.out HB.out)); (case side4 => exact HC1_5.out); rintro e w50 ⟨v685, rfl, ho0, hb⟩; have HO686 := Aside0.mk (Kd.S_lower (Kd.S_newB ho0 (g := gb670) (o := .cells #[.int .i64 a1_0, .int .i64 a1_1, .int .i64 a1_2, .int .i64 a1_3, .int .i64 a1_4, .slice A1_5 l1_5.length c1_5, .int .i64 a1_6, .bool a1_7] 61 (0, 0)) (bk_q BK670)) (below_size (bw_q HB))); replace BK670 := Aside0.mk (blk_below (g := gb670) (bk_q BK670) hb); replace HB := Aside0.mk (below_step (bw_q HB) hb); (try clear hb); (try clear hb2); (try clear hk); (try clear hi); (try clear ho0))); try go_wp2_with (first | (go_at_call 111; (with_reducible refine (impl_put.calls kj2 _ _ l0 a1_0 a1_1 a1_2 a1_3 a1_4 _ _ l1_5 a1_6 a1_7 t684 _ ?side1 ?side2 ?side3 ?side4 A48.out).mono ?_); (case side1 => exact cs_q (Kd.C_below HR0.out HB.out)); (case side2 => exact HC0.out); (case side3 => exact cs_q (Kd.C_below HR1_5.out HB.out)); (case side4 => exact HC1_5.out); rintro e w50 ⟨v685, rfl, ho0, hb⟩; have HO686 := Aside0.mk (Kd.S_lower (Kd.S_newB ho0 (g := gb670) (o := .cells #[.int .i64 a1_0, .int .i64 a1_1, .int .i64 a1_2, .int .i64 a1_3, .int .i64 a1_4, .slice A1_5 l1_5.length c1_5, .int .i64 a1_6, .bool a1_7] 61 (0, 0)) (bk_q BK670)) (below_size (bw_q HB))); replace BK670 := Aside0.mk (blk_below (g := gb670) (bk_q BK670) hb); replace HB := Aside0.mk (below_step (bw_q HB) hb); (try clear hb); (try clear hb2); (try clear hk); (try clear hi); (try clear ho0))))
      go_ret2
      exact ⟨_, er_q, by (with_reducible repeat (first | apply Kd.S_alloc | apply Kd.S_drewN | apply Kd.S_drew)); exact Kd.S_mono HO686.out (fun _ hk => trivial), bw_q HB⟩

end Go.Proofs.Ythjmdiggglkeaaa.Q
