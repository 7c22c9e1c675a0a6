import Derived.Test.YthjmdiggglkeaaaXFnHeadersQspecScope
import Derived.Test.YthjmdiggglkeaaaXFnHeadersQlawsbig
import Derived.Test.YthjmdiggglkeaaaXFnHeadersQimplSameBody
/- A Go function as a Lean function, and its contract: for every input the Go code comes to what the Lean function tells. -/



namespace Go.Proofs.Ythjmdiggglkeaaa.Q
open Go.RowKit Go.Proofs.YthjmdiggglkeaaaW.PrintWords Go.Proofs.YthjmdiggglkeaaaW.PrintLast Go.Proofs.YthjmdiggglkeaaaW.PrintMore
attribute [local go_sem] max2_int min2_int max_two min_two max_three min_three max_four min_four   -- for this text's walks alone
set_option linter.unusedVariables false
set_option linter.unusedSimpArgs false

/-! ### impl_sumsOk: function 119 -/
def impl_sumsOk.l0 : Nat → List (S61) → Int → Int → Option (Bool)
 | 0, _, _, _ => none
 | k + 1, x6, x7, x8 => if x8 < x7 then (if 0 ≤ x8 then (if x8 < (x6.length : Int) then ((impl_header.f ((rd_T61 x6 x8).f0) ((rd_T61 x6 x8).f1) ((rd_T61 x6 x8).f2) ((rd_T61 x6 x8).f3) ((rd_T61 x6 x8).f4) ((rd_T61 x6 x8).f5) ((rd_T61 x6 x8).f6) ((rd_T61 x6 x8).f7)).bind fun bt1536 => ((impl_SameBody.f k bt1536.1 bt1536.2.1 bt1536.2.2.1 bt1536.2.2.2.1 bt1536.2.2.2.2.1 bt1536.2.2.2.2.2.1 bt1536.2.2.2.2.2.2.1 bt1536.2.2.2.2.2.2.2 ((rd_T61 x6 x8).f0) ((rd_T61 x6 x8).f1) ((rd_T61 x6 x8).f2) ((rd_T61 x6 x8).f3) ((rd_T61 x6 x8).f4) ((rd_T61 x6 x8).f5) ((rd_T61 x6 x8).f6) ((rd_T61 x6 x8).f7)).bind fun t1547 => (if t1547 = true then (impl_sumsOk.l0 k x6 x7 (wrap64 (x8 + 1))) else (some false)))) else (none)) else (none)) else (some true)
def impl_sumsOk.f (k : Nat) (l0 : List (S61)) : Option (Bool) := impl_sumsOk.l0 k l0 (l0.length : Int) 0
theorem impl_sumsOk.mono_l : ∀ k, (∀ y0 y1 y2, LeO (impl_sumsOk.l0 k y0 y1 y2) (impl_sumsOk.l0 (k + 1) y0 y1 y2))
 | 0 => fun _ _ _ r h => by simp [impl_sumsOk.l0] at h
 | k + 1 => by
  have ih0 := impl_sumsOk.mono_l k
  ·intro y0 y1 y2
   unfold impl_sumsOk.l0
   repeat' first
   | (with_reducible exact ih0 _ _ _)
   | (with_reducible exact impl_SameBody.mono _ _ _ _ _ _ _ _ _ _ _ _ _ _ _ _ _)
   | (with_reducible exact LeO.refl _)
   | (with_reducible exact LeO.none _)
   | (with_reducible refine LeO.ite ?_ ?_)
   | (with_reducible refine LeO.bind ?_ (fun _ => ?_))
   | exact ih0 _ _ _
   | exact impl_SameBody.mono _ _ _ _ _ _ _ _ _ _ _ _ _ _ _ _ _
   | exact LeO.none _
   | refine LeO.ite ?_ ?_
   | refine LeO.bind ?_ (fun _ => ?_)
theorem impl_sumsOk.mono : ∀ a0 k, LeO (impl_sumsOk.f k a0) (impl_sumsOk.f (k + 1) a0) := by
 intro a0 k
 have ih0 := impl_sumsOk.mono_l k
 unfold impl_sumsOk.f
 repeat' first
   | (with_reducible exact ih0 _ _ _)
   | (with_reducible exact impl_SameBody.mono _ _ _ _ _ _ _ _ _ _ _ _ _ _ _ _ _)
   | (with_reducible exact LeO.refl _)
   | (with_reducible exact LeO.none _)
   | (with_reducible refine LeO.ite ?_ ?_)
   | (with_reducible refine LeO.bind ?_ (fun _ => ?_))
   | exact ih0 _ _ _
   | exact impl_SameBody.mono _ _ _ _ _ _ _ _ _ _ _ _ _ _ _ _ _
   | exact LeO.none _
   | refine LeO.ite ?_ ?_
   | refine LeO.bind ?_ (fun _ => ?_)
set_option maxHeartbeats 8000000 in
set_option maxRecDepth 100000 in
theorem impl_sumsOk.calls (k : Nat) (A0 : Option Addr) (c0 : Nat) (l0 : List (S61)) (r : Bool) (w : World) (hr0 : Kd.C k61 w A0 l0.length l0) (hc0 : l0.length ≤ c0) (h : impl_sumsOk.f k l0 = some r) :
  Calls Try.prog 119 #[.slice A0 l0.length c0] w fun e w' => e = .returned (.bool r) ∧ Below w.heap.size w w' := by
 have hu61 := Try.underlying61
 have HR0 := Aside0.mk hr0
 have HC0 := Aside0.mk hc0
 clear hr0 hc0
 have HB := Aside0.mk (Below.refl w.heap.size w)
 have H : (impl_sumsOk.l0 k l0 (l0.length : Int) 0) = some r := h
 clear h
 have H' := Aside0.mk H
 clear H
 go_enter Try.func119, Try.ntmps119
 go_wp2
 go_loopg [8] k (fun kq v8 w' => ∃ (x8_1 : Int), v8 = .int .i64 x8_1 ∧ Aside0 (impl_sumsOk.l0 kq l0 (l0.length : Int) x8_1 = some r) ∧ Aside0 (kq ≤ k) ∧ Aside0 (Below w.heap.size w w'))
 case atStart => exact ⟨(0), (by first | rfl | (simp; done) | (simp [*]; done)), H', ⟨Nat.le_refl _⟩, ⟨bw_q HB⟩⟩
 case round =>
  clear H'
  try clear c1
  obtain ⟨x8_1, rfl, HA, HK1, HB⟩ := hrel
  cases gk with
  | zero => exact absurd HA.out (by simp [impl_sumsOk.l0])
  | succ k1 =>
   have H := HA.out
   clear HA
   simp only [impl_sumsOk.l0] at H
   by_cases c2 : x8_1 < (l0.length : Int)
   ·rw [if_pos c2] at H
    have c2b0 : decide (x8_1 < (l0.length : Int)) = true := decide_eq_true c2
    clear c2
    by_cases c3 : 0 ≤ x8_1
    ·rw [if_pos c3] at H
     have c3b0 : decide (0 ≤ x8_1) = true := decide_eq_true c3
     clear c3
     by_cases c4 : x8_1 < (l0.length : Int)
     ·rw [if_pos c4] at H
      have c4b0 : decide (x8_1 < (l0.length : Int)) = true := decide_eq_true c4
      clear c4
      replace H := Option.bind_eq_some_iff.mp H
      obtain ⟨⟨t1536, t1537, t1538, t1539, t1540, t1541, t1544, t1545⟩, A50, H⟩ := H
      replace H : ((impl_SameBody.f k1 t1536 t1537 t1538 t1539 t1540 t1541 t1544 t1545 ((rd_T61 l0 x8_1).f0) ((rd_T61 l0 x8_1).f1) ((rd_T61 l0 x8_1).f2) ((rd_T61 l0 x8_1).f3) ((rd_T61 l0 x8_1).f4) ((rd_T61 l0 x8_1).f5) ((rd_T61 l0 x8_1).f6) ((rd_T61 l0 x8_1).f7)).bind fun t1547 => (if t1547 = true then (impl_sumsOk.l0 k1 l0 (l0.length : Int) (wrap64 (x8_1 + 1))) else (some false))) = some r := H
      have A5 := Aside0.mk A50
      clear A50
      replace H := Option.bind_eq_some_iff.mp H
      obtain ⟨t1547, A60, H⟩ := H
      replace H : (if t1547 = true then (impl_sumsOk.l0 k1 l0 (l0.length : Int) (wrap64 (x8_1 + 1))) else (some false)) = some r := H
      have A6 := Aside0.mk A60
      clear A60
      have HC7 := Aside0.mk H
      clear H
      have p1534 : 0 ≤ (x8_1 : Int) := of_decide_eq_true as_q
      have q1534 : x8_1 < (l0.length : Int) := of_decide_eq_true as_q
      obtain ⟨ad1534, A1534_5, c1534_5, e1534, hx1534_0, hx1534_1, hx1534_2, hx1534_3, hx1534_4, hx1534_5, hx1534_6, hx1534_7, hl1534_5, hi1534_5⟩ := at_T61 HR0.out x8_1 p1534 q1534
      cases e1534
      replace hx1534_0 := (HB.out.cell (World.block_lt_of_cell? w _ hx1534_0)).trans hx1534_0
      replace hx1534_1 := (HB.out.cell (World.block_lt_of_cell? w _ hx1534_1)).trans hx1534_1
      replace hx1534_2 := (HB.out.cell (World.block_lt_of_cell? w _ hx1534_2)).trans hx1534_2
      replace hx1534_3 := (HB.out.cell (World.block_lt_of_cell? w _ hx1534_3)).trans hx1534_3
      replace hx1534_4 := (HB.out.cell (World.block_lt_of_cell? w _ hx1534_4)).trans hx1534_4
      replace hx1534_5 := (HB.out.cell (World.block_lt_of_cell? w _ hx1534_5)).trans hx1534_5
      replace hx1534_6 := (HB.out.cell (World.block_lt_of_cell? w _ hx1534_6)).trans hx1534_6
      replace hx1534_7 := (HB.out.cell (World.block_lt_of_cell? w _ hx1534_7)).trans hx1534_7
      have HR1534_5 := Aside0.mk hi1534_5
      have HC1534_5 := Aside0.mk hl1534_5
      clear hi1534_5 hl1534_5
      replace p1534 := eq_true p1534
      replace q1534 := eq_true q1534
      go_upto_if 17 with (first | ((with_reducible refine gate_dst (N := 4) rfl ?_); refine box_q 4 #[.int .i64 0, .int .i64 0, .int .i64 0, .int .i64 0, .int .i64 0, .slice none 0 0, .int .i64 0, .bool false] 61 ?_; intro gb1535 hg w8 hbox hb; have BK1535 := Aside0.mk (hbox); have GW1535 := Aside0.mk ((by rw [hg]; exact (below_size (bw_q HB)) : w.heap.size ≤ gb1535)); have GE1535 := Aside0.mk ((by rw [hg]; exact (below_size (bw_q HB)) : w.heap.size ≤ gb1535)); replace HB := Aside0.mk (below_step (bw_q HB) hb); clear hb hbox hg; have hcz9_0 : w8.cell? ⟨gb1535, 0, none⟩ = some (.int .i64 0) := (blk_cell BK1535.out 0).trans rfl; have hcz9_1 : w8.cell? ⟨gb1535, 1, none⟩ = some (.int .i64 0) := (blk_cell BK1535.out 1).trans rfl; have hcz9_2 : w8.cell? ⟨gb1535, 2, none⟩ = some (.int .i64 0) := (blk_cell BK1535.out 2).trans rfl; have hcz9_3 : w8.cell? ⟨gb1535, 3, none⟩ = some (.int .i64 0) := (blk_cell BK1535.out 3).trans rfl; have hcz9_4 : w8.cell? ⟨gb1535, 4, none⟩ = some (.int .i64 0) := (blk_cell BK1535.out 4).trans rfl; have hcz9_5 : w8.cell? ⟨gb1535, 5, none⟩ = some (.slice none 0 0) := (blk_cell BK1535.out 5).trans rfl; have hcz9_6 : w8.cell? ⟨gb1535, 6, none⟩ = some (.int .i64 0) := (blk_cell BK1535.out 6).trans rfl; have hcz9_7 : w8.cell? ⟨gb1535, 7, none⟩ = some (.bool false) := (blk_cell BK1535.out 7).trans rfl; have hfz9_0 := blk_frozen BK1535.out 0; have hfz9_1 := blk_frozen BK1535.out 1; have hfz9_2 := blk_frozen BK1535.out 2; have hfz9_3 := blk_frozen BK1535.out 3; have hfz9_4 := blk_frozen BK1535.out 4; have hfz9_5 := blk_frozen BK1535.out 5; have hfz9_6 := blk_frozen BK1535.out 6; have hfz9_7 := blk_frozen BK1535.out 7) | ((with_reducible refine gate_callee (f := 113) rfl ?_); refine goesL_ (some 13) rfl rfl Try.func113 (by kernel_rfl) rfl #[.agg #[.int .i64 ((rd_T61 l0 x8_1).f0), .int .i64 ((rd_T61 l0 x8_1).f1), .int .i64 ((rd_T61 l0 x8_1).f2), .int .i64 ((rd_T61 l0 x8_1).f3), .int .i64 ((rd_T61 l0 x8_1).f4), .slice A1534_5 ((rd_T61 l0 x8_1).f5).length c1534_5, .int .i64 ((rd_T61 l0 x8_1).f6), .bool ((rd_T61 l0 x8_1).f7)]] rfl mp_q ?_; (with_reducible refine (impl_header.calls ((rd_T61 l0 x8_1).f0) ((rd_T61 l0 x8_1).f1) ((rd_T61 l0 x8_1).f2) ((rd_T61 l0 x8_1).f3) ((rd_T61 l0 x8_1).f4) _ _ ((rd_T61 l0 x8_1).f5) ((rd_T61 l0 x8_1).f6) ((rd_T61 l0 x8_1).f7) t1536 t1537 t1538 t1539 t1540 t1541 t1544 t1545 _ ?side1 ?side2 A5.out).mono ?_); (case side1 => exact Kd.C_below HR1534_5.out (bw_q HB)); (case side2 => exact HC1534_5.out); rintro e w10 ⟨v1542, rfl, ho0, hb⟩; refine ⟨_, rfl, ?_⟩; have hs_v1542 : (v1542 : Value).oneCell' = true := (by first | (obtain ⟨A_, c_, e_⟩ := Kd.R_slice ho0; simp [e_, Value.oneCell']) | (obtain ⟨A_, c_, e_⟩ := Kd.S_slice ho0; simp [e_, Value.oneCell']) | (obtain ⟨A_, c_, e_⟩ := Kd.N_slice ho0; simp [e_, Value.oneCell']) | (obtain ⟨A_, c_, e_⟩ := Kd.V_slice ho0; simp [e_, Value.oneCell'])); have hst_v1542 := fun (w_ : World) (a_ : Addr) m_ => run_store Try.prog w_ a_ v1542 m_ hs_v1542; have HO1543 := Aside0.mk (Kd.R_lower ho0 (below_size (bw_q HB))); replace BK1535 := Aside0.mk (blk_below (g := gb1535) (o := .cells #[.int .i64 ((rd_T61 l0 x8_1).f0), .int .i64 ((rd_T61 l0 x8_1).f1), .int .i64 ((rd_T61 l0 x8_1).f2), .int .i64 ((rd_T61 l0 x8_1).f3), .int .i64 ((rd_T61 l0 x8_1).f4), .slice A1534_5 ((rd_T61 l0 x8_1).f5).length c1534_5, .int .i64 ((rd_T61 l0 x8_1).f6), .bool ((rd_T61 l0 x8_1).f7)] 61 (0, 0)) (by refine bz_ ?_; refine blk_put (cs := #[.int .i64 ((rd_T61 l0 x8_1).f0), .int .i64 ((rd_T61 l0 x8_1).f1), .int .i64 ((rd_T61 l0 x8_1).f2), .int .i64 ((rd_T61 l0 x8_1).f3), .int .i64 ((rd_T61 l0 x8_1).f4), .slice A1534_5 ((rd_T61 l0 x8_1).f5).length c1534_5, .int .i64 ((rd_T61 l0 x8_1).f6), .bool false]) ?_ 7 _ rfl; refine bz_ ?_; refine blk_put (cs := #[.int .i64 ((rd_T61 l0 x8_1).f0), .int .i64 ((rd_T61 l0 x8_1).f1), .int .i64 ((rd_T61 l0 x8_1).f2), .int .i64 ((rd_T61 l0 x8_1).f3), .int .i64 ((rd_T61 l0 x8_1).f4), .slice A1534_5 ((rd_T61 l0 x8_1).f5).length c1534_5, .int .i64 0, .bool false]) ?_ 6 _ rfl; refine bz_ ?_; refine blk_put (cs := #[.int .i64 ((rd_T61 l0 x8_1).f0), .int .i64 ((rd_T61 l0 x8_1).f1), .int .i64 ((rd_T61 l0 x8_1).f2), .int .i64 ((rd_T61 l0 x8_1).f3), .int .i64 ((rd_T61 l0 x8_1).f4), .slice none 0 0, .int .i64 0, .bool false]) ?_ 5 _ rfl; refine bz_ ?_; refine blk_put (cs := #[.int .i64 ((rd_T61 l0 x8_1).f0), .int .i64 ((rd_T61 l0 x8_1).f1), .int .i64 ((rd_T61 l0 x8_1).f2), .int .i64 ((rd_T61 l0 x8_1).f3), .int .i64 0, .slice none 0 0, .int .i64 0, .bool false]) ?_ 4 _ rfl; refine bz_ ?_; refine blk_put (cs := #[.int .i64 ((rd_T61 l0 x8_1).f0), .int .i64 ((rd_T61 l0 x8_1).f1), .int .i64 ((rd_T61 l0 x8_1).f2), .int .i64 0, .int .i64 0, .slice none 0 0, .int .i64 0, .bool false]) ?_ 3 _ rfl; refine bz_ ?_; refine blk_put (cs := #[.int .i64 ((rd_T61 l0 x8_1).f0), .int .i64 ((rd_T61 l0 x8_1).f1), .int .i64 0, .int .i64 0, .int .i64 0, .slice none 0 0, .int .i64 0, .bool false]) ?_ 2 _ rfl; refine bz_ ?_; refine blk_put (cs := #[.int .i64 ((rd_T61 l0 x8_1).f0), .int .i64 0, .int .i64 0, .int .i64 0, .int .i64 0, .slice none 0 0, .int .i64 0, .bool false]) ?_ 1 _ rfl; refine bz_ ?_; refine blk_put (cs := #[.int .i64 0, .int .i64 0, .int .i64 0, .int .i64 0, .int .i64 0, .slice none 0 0, .int .i64 0, .bool false]) ?_ 0 _ rfl; refine bz_ ?_; exact BK1535.out) hb); replace HB := Aside0.mk (below_step (bw_q HB) hb); (try clear hb); (try clear hb2); (try clear hk); (try clear hi); (try clear ho0)) | ((with_reducible refine gate_dst (N := 5) rfl ?_); refine box_q 5 #[.int .i64 0, .int .i64 0, .int .i64 0, .int .i64 0, .int .i64 0, .slice none 0 0, .int .i64 0, .bool false] 61 ?_; intro gb1546 hg w11 hbox hb; replace HO1543 := Aside0.mk (Kd.R_below (kR_q HO1543) hb); have BK1546 := Aside0.mk (hbox); have GW1546 := Aside0.mk ((by rw [hg]; exact (below_size (bw_q HB)) : w.heap.size ≤ gb1546)); have GE1546 := Aside0.mk ((by rw [hg]; exact (below_size (bw_q HB)) : w.heap.size ≤ gb1546)); replace HB := Aside0.mk (below_step (bw_q HB) hb); have NB1535_1546 := Aside0.mk ((by rw [hg]; exact Nat.ne_of_lt (blk_lt (g := gb1535) (o := .cells #[.int .i64 ((rd_T61 l0 x8_1).f0), .int .i64 ((rd_T61 l0 x8_1).f1), .int .i64 ((rd_T61 l0 x8_1).f2), .int .i64 ((rd_T61 l0 x8_1).f3), .int .i64 ((rd_T61 l0 x8_1).f4), .slice A1534_5 ((rd_T61 l0 x8_1).f5).length c1534_5, .int .i64 ((rd_T61 l0 x8_1).f6), .bool ((rd_T61 l0 x8_1).f7)] 61 (0, 0)) (bk_q BK1535)) : gb1535 ≠ gb1546)); have NB1546_1535 := Aside0.mk ((by rw [hg]; exact Nat.ne_of_gt (blk_lt (g := gb1535) (o := .cells #[.int .i64 ((rd_T61 l0 x8_1).f0), .int .i64 ((rd_T61 l0 x8_1).f1), .int .i64 ((rd_T61 l0 x8_1).f2), .int .i64 ((rd_T61 l0 x8_1).f3), .int .i64 ((rd_T61 l0 x8_1).f4), .slice A1534_5 ((rd_T61 l0 x8_1).f5).length c1534_5, .int .i64 ((rd_T61 l0 x8_1).f6), .bool ((rd_T61 l0 x8_1).f7)] 61 (0, 0)) (bk_q BK1535)) : gb1546 ≠ gb1535)); replace BK1535 := Aside0.mk (blk_below (g := gb1535) (bk_q BK1535) hb); clear hb hbox hg; have hnb12 := NB1546_1535.out; have hnc12 := NB1535_1546.out; have hcz13_0 : w11.cell? ⟨gb1546, 0, none⟩ = some (.int .i64 0) := (blk_cell BK1546.out 0).trans rfl; have hcz13_1 : w11.cell? ⟨gb1546, 1, none⟩ = some (.int .i64 0) := (blk_cell BK1546.out 1).trans rfl; have hcz13_2 : w11.cell? ⟨gb1546, 2, none⟩ = some (.int .i64 0) := (blk_cell BK1546.out 2).trans rfl; have hcz13_3 : w11.cell? ⟨gb1546, 3, none⟩ = some (.int .i64 0) := (blk_cell BK1546.out 3).trans rfl; have hcz13_4 : w11.cell? ⟨gb1546, 4, none⟩ = some (.int .i64 0) := (blk_cell BK1546.out 4).trans rfl; have hcz13_5 : w11.cell? ⟨gb1546, 5, none⟩ = some (.slice none 0 0) := (blk_cell BK1546.out 5).trans rfl; have hcz13_6 : w11.cell? ⟨gb1546, 6, none⟩ = some (.int .i64 0) := (blk_cell BK1546.out 6).trans rfl; have hcz13_7 : w11.cell? ⟨gb1546, 7, none⟩ = some (.bool false) := (blk_cell BK1546.out 7).trans rfl; have hfz13_0 := blk_frozen BK1546.out 0; have hfz13_1 := blk_frozen BK1546.out 1; have hfz13_2 := blk_frozen BK1546.out 2; have hfz13_3 := blk_frozen BK1546.out 3; have hfz13_4 := blk_frozen BK1546.out 4; have hfz13_5 := blk_frozen BK1546.out 5; have hfz13_6 := blk_frozen BK1546.out 6; have hfz13_7 := blk_frozen BK1546.out 7; obtain ⟨Ao14, co14, eo14⟩ := Kd.R_slice HO1543.out; subst eo14; have hcz15_0 : w11.cell? ⟨gb1535, 0, none⟩ = some (.int .i64 ((rd_T61 l0 x8_1).f0)) := (blk_cell BK1535.out 0).trans rfl; have hcz15_1 : w11.cell? ⟨gb1535, 1, none⟩ = some (.int .i64 ((rd_T61 l0 x8_1).f1)) := (blk_cell BK1535.out 1).trans rfl; have hcz15_2 : w11.cell? ⟨gb1535, 2, none⟩ = some (.int .i64 ((rd_T61 l0 x8_1).f2)) := (blk_cell BK1535.out 2).trans rfl; have hcz15_3 : w11.cell? ⟨gb1535, 3, none⟩ = some (.int .i64 ((rd_T61 l0 x8_1).f3)) := (blk_cell BK1535.out 3).trans rfl; have hcz15_4 : w11.cell? ⟨gb1535, 4, none⟩ = some (.int .i64 ((rd_T61 l0 x8_1).f4)) := (blk_cell BK1535.out 4).trans rfl; have hcz15_5 : w11.cell? ⟨gb1535, 5, none⟩ = some (.slice A1534_5 ((rd_T61 l0 x8_1).f5).length c1534_5) := (blk_cell BK1535.out 5).trans rfl; have hcz15_6 : w11.cell? ⟨gb1535, 6, none⟩ = some (.int .i64 ((rd_T61 l0 x8_1).f6)) := (blk_cell BK1535.out 6).trans rfl; have hcz15_7 : w11.cell? ⟨gb1535, 7, none⟩ = some (.bool ((rd_T61 l0 x8_1).f7)) := (blk_cell BK1535.out 7).trans rfl; have hfz15_0 := blk_frozen BK1535.out 0; have hfz15_1 := blk_frozen BK1535.out 1; have hfz15_2 := blk_frozen BK1535.out 2; have hfz15_3 := blk_frozen BK1535.out 3; have hfz15_4 := blk_frozen BK1535.out 4; have hfz15_5 := blk_frozen BK1535.out 5; have hfz15_6 := blk_frozen BK1535.out 6; have hfz15_7 := blk_frozen BK1535.out 7) | ((with_reducible refine gate_callee (f := 70) rfl ?_); refine goesL_ (some 16) rfl rfl Try.func70 (by kernel_rfl) rfl #[.agg #[.int .i64 t1536, .int .i64 t1537, .int .i64 t1538, .int .i64 t1539, .int .i64 t1540, .slice Ao14 t1541.length co14, .int .i64 t1544, .bool t1545], .agg #[.int .i64 ((rd_T61 l0 x8_1).f0), .int .i64 ((rd_T61 l0 x8_1).f1), .int .i64 ((rd_T61 l0 x8_1).f2), .int .i64 ((rd_T61 l0 x8_1).f3), .int .i64 ((rd_T61 l0 x8_1).f4), .slice A1534_5 ((rd_T61 l0 x8_1).f5).length c1534_5, .int .i64 ((rd_T61 l0 x8_1).f6), .bool ((rd_T61 l0 x8_1).f7)]] rfl mp_q ?_; (with_reducible refine (impl_SameBody.calls k1 t1536 t1537 t1538 t1539 t1540 _ _ t1541 t1544 t1545 ((rd_T61 l0 x8_1).f0) ((rd_T61 l0 x8_1).f1) ((rd_T61 l0 x8_1).f2) ((rd_T61 l0 x8_1).f3) ((rd_T61 l0 x8_1).f4) _ _ ((rd_T61 l0 x8_1).f5) ((rd_T61 l0 x8_1).f6) ((rd_T61 l0 x8_1).f7) t1547 _ ?side1 ?side2 ?side3 ?side4 A6.out).mono ?_); (case side1 => refine (Kd.R_reads' (e := 127) (base := w.heap.size) (ok := fun k_ => True) (n := t1541.length) (c := co14) ?_).2.2; exact (by (with_reducible repeat (first | apply Kd.R_alloc | apply Kd.R_drewN | apply Kd.R_drew)); exact (Kd.R_mono (Kd.R_far (p := ⟨gb1546, 7, none⟩) (Kd.R_far (p := ⟨gb1546, 6, none⟩) (Kd.R_far (p := ⟨gb1546, 5, none⟩) (Kd.R_far (p := ⟨gb1546, 4, none⟩) (Kd.R_far (p := ⟨gb1546, 3, none⟩) (Kd.R_far (p := ⟨gb1546, 2, none⟩) (Kd.R_far (p := ⟨gb1546, 1, none⟩) (Kd.R_far (p := ⟨gb1546, 0, none⟩) (Kd.R_types HO1543.out BK1546.out (by decide)) (fun _ hk => hk.2) (.int .i64 t1536)) (fun _ hk => hk.2) (.int .i64 t1537)) (fun _ hk => hk.2) (.int .i64 t1538)) (fun _ hk => hk.2) (.int .i64 t1539)) (fun _ hk => hk.2) (.int .i64 t1540)) (fun _ hk => hk.2) (.slice Ao14 t1541.length co14)) (fun _ hk => hk.2) (.int .i64 t1544)) (fun _ hk => hk.2) (.bool t1545)) (fun _ h_ => h_.1)))); (case side2 => exact (Kd.R_reads' HO1543.out).2.1); (case side3 => exact Kd.C_below HR1534_5.out (bw_q HB)); (case side4 => exact HC1534_5.out); rintro e w16 ⟨rfl, hb⟩; refine ⟨_, rfl, ?_⟩; replace HO1543 := Aside0.mk (Kd.R_below (by (with_reducible repeat (first | apply Kd.R_alloc | apply Kd.R_drewN | apply Kd.R_drew)); exact (Kd.R_mono (Kd.R_far (p := ⟨gb1546, 7, none⟩) (Kd.R_far (p := ⟨gb1546, 6, none⟩) (Kd.R_far (p := ⟨gb1546, 5, none⟩) (Kd.R_far (p := ⟨gb1546, 4, none⟩) (Kd.R_far (p := ⟨gb1546, 3, none⟩) (Kd.R_far (p := ⟨gb1546, 2, none⟩) (Kd.R_far (p := ⟨gb1546, 1, none⟩) (Kd.R_far (p := ⟨gb1546, 0, none⟩) (Kd.R_types HO1543.out BK1546.out (by decide)) (fun _ hk => hk.2) (.int .i64 t1536)) (fun _ hk => hk.2) (.int .i64 t1537)) (fun _ hk => hk.2) (.int .i64 t1538)) (fun _ hk => hk.2) (.int .i64 t1539)) (fun _ hk => hk.2) (.int .i64 t1540)) (fun _ hk => hk.2) (.slice Ao14 t1541.length co14)) (fun _ hk => hk.2) (.int .i64 t1544)) (fun _ hk => hk.2) (.bool t1545)) (fun _ h_ => h_.1))) hb); replace BK1535 := Aside0.mk (blk_below (g := gb1535) (o := .cells #[.int .i64 ((rd_T61 l0 x8_1).f0), .int .i64 ((rd_T61 l0 x8_1).f1), .int .i64 ((rd_T61 l0 x8_1).f2), .int .i64 ((rd_T61 l0 x8_1).f3), .int .i64 ((rd_T61 l0 x8_1).f4), .slice A1534_5 ((rd_T61 l0 x8_1).f5).length c1534_5, .int .i64 ((rd_T61 l0 x8_1).f6), .bool ((rd_T61 l0 x8_1).f7)] 61 (0, 0)) (by refine bz_ ?_; refine blk_far ?_ NB1535_1546.out _; refine bz_ ?_; refine blk_far ?_ NB1535_1546.out _; refine bz_ ?_; refine blk_far ?_ NB1535_1546.out _; refine bz_ ?_; refine blk_far ?_ NB1535_1546.out _; refine bz_ ?_; refine blk_far ?_ NB1535_1546.out _; refine bz_ ?_; refine blk_far ?_ NB1535_1546.out _; refine bz_ ?_; refine blk_far ?_ NB1535_1546.out _; refine bz_ ?_; refine blk_far ?_ NB1535_1546.out _; refine bz_ ?_; exact BK1535.out) hb); replace BK1546 := Aside0.mk (blk_below (g := gb1546) (o := .cells #[.int .i64 t1536, .int .i64 t1537, .int .i64 t1538, .int .i64 t1539, .int .i64 t1540, .slice Ao14 t1541.length co14, .int .i64 t1544, .bool t1545] 61 (0, 0)) (by refine bz_ ?_; refine blk_put (cs := #[.int .i64 t1536, .int .i64 t1537, .int .i64 t1538, .int .i64 t1539, .int .i64 t1540, .slice Ao14 t1541.length co14, .int .i64 t1544, .bool false]) ?_ 7 _ rfl; refine bz_ ?_; refine blk_put (cs := #[.int .i64 t1536, .int .i64 t1537, .int .i64 t1538, .int .i64 t1539, .int .i64 t1540, .slice Ao14 t1541.length co14, .int .i64 0, .bool false]) ?_ 6 _ rfl; refine bz_ ?_; refine blk_put (cs := #[.int .i64 t1536, .int .i64 t1537, .int .i64 t1538, .int .i64 t1539, .int .i64 t1540, .slice none 0 0, .int .i64 0, .bool false]) ?_ 5 _ rfl; refine bz_ ?_; refine blk_put (cs := #[.int .i64 t1536, .int .i64 t1537, .int .i64 t1538, .int .i64 t1539, .int .i64 0, .slice none 0 0, .int .i64 0, .bool false]) ?_ 4 _ rfl; refine bz_ ?_; refine blk_put (cs := #[.int .i64 t1536, .int .i64 t1537, .int .i64 t1538, .int .i64 0, .int .i64 0, .slice none 0 0, .int .i64 0, .bool false]) ?_ 3 _ rfl; refine bz_ ?_; refine blk_put (cs := #[.int .i64 t1536, .int .i64 t1537, .int .i64 0, .int .i64 0, .int .i64 0, .slice none 0 0, .int .i64 0, .bool false]) ?_ 2 _ rfl; refine bz_ ?_; refine blk_put (cs := #[.int .i64 t1536, .int .i64 0, .int .i64 0, .int .i64 0, .int .i64 0, .slice none 0 0, .int .i64 0, .bool false]) ?_ 1 _ rfl; refine bz_ ?_; refine blk_put (cs := #[.int .i64 0, .int .i64 0, .int .i64 0, .int .i64 0, .int .i64 0, .slice none 0 0, .int .i64 0, .bool false]) ?_ 0 _ rfl; refine bz_ ?_; exact BK1546.out) hb); replace HB := Aside0.mk (below_step (bw_q HB) hb); (try clear hb); (try clear hb2); (try clear hk); (try clear hi)))
      (try clear hx1534_0); (try clear hx1534_1); (try clear hx1534_2); (try clear hx1534_3); (try clear hx1534_4); (try clear hx1534_5); (try clear hx1534_6); (try clear hx1534_7)
      have H := HC7.out
      clear HC7
      by_cases c17 : t1547 = true
      ·subst c17
       have H1 : (impl_sumsOk.l0 k1 l0 (l0.length : Int) (wrap64 (x8_1 + 1))) = some r := by rw [if_pos rfl] at H; exact H
       clear H
       have H := H1
       clear H1
       have H' := Aside0.mk H
       clear H
       go_wp2
       go_roundg k1
       case measure => have := HK1.out; omega
       case rel => exact ⟨(wrap64 (x8_1 + 1)), (by first | rfl | (simp; done) | (simp [*]; done)), H', ⟨by have := HK1.out; omega⟩, ⟨bw_q HB⟩⟩
      ·replace c17 := Bool.eq_false_iff.mpr c17
       subst c17
       have H1 : (some false) = some r := by rw [if_neg (show ¬ (false = true) by decide)] at H; exact H
       clear H
       have H := H1
       clear H1
       obtain rfl := Option.some.inj H
       go_wp2
       go_ret
       exact ⟨er_q, bw_q HB⟩
     ·rw [if_neg c4] at H
      exact absurd H (by simp)
    ·rw [if_neg c3] at H
     exact absurd H (by simp)
   ·rw [if_neg c2] at H
    have c2b0 : decide (x8_1 < (l0.length : Int)) = false := decide_eq_false c2
    clear c2
    obtain rfl := Option.some.inj H
    go_wp2
    go_ret
    exact ⟨er_q, bw_q HB⟩

end Go.Proofs.Ythjmdiggglkeaaa.Q
