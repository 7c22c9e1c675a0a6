import Derived.Test.YthjmdiggglkeaaaXFnHeadersQspecScope
import Derived.Test.YthjmdiggglkeaaaXFnHeadersQspecBefore
/- A Go function as a Lean function, and its contract: for every input the Go code comes to what the Lean function tells. -/



namespace Go.Proofs.Ythjmdiggglkeaaa.Q
open Go.RowKit Go.Proofs.YthjmdiggglkeaaaW.PrintWords Go.Proofs.YthjmdiggglkeaaaW.PrintLast Go.Proofs.YthjmdiggglkeaaaW.PrintMore
attribute [local go_sem] max2_int min2_int max_two min_two max_three min_three max_four min_four   -- for this text's walks alone
set_option linter.unusedVariables false
set_option linter.unusedSimpArgs false

/-! ### spec_Newer: function 58 -/
def spec_Newer.l0 : Nat → List (S61) → List (S61) → List (S61) → Int → Option ((List (S61)))
 | 0, _, _, _, _ => none
 | k + 1, x0, x1, x5, x6 => if x6 < (x0.length : Int) then (if 0 ≤ x6 then ((spec_l05At.f k x1 ((rd_T61 x0 x6).f0) ((rd_T61 x0 x6).f1) ((rd_T61 x0 x6).f2) ((rd_T61 x0 x6).f3) ((rd_T61 x0 x6).f4) ((rd_T61 x0 x6).f5) ((rd_T61 x0 x6).f6) ((rd_T61 x0 x6).f7)).bind fun t1495 => (if t1495 < 0 then ((spec_l04Copy.f ((rd_T61 x0 x6).f0) ((rd_T61 x0 x6).f1) ((rd_T61 x0 x6).f2) ((rd_T61 x0 x6).f3) ((rd_T61 x0 x6).f4) ((rd_T61 x0 x6).f5) ((rd_T61 x0 x6).f6) ((rd_T61 x0 x6).f7)).bind fun bt1497 => (if x5.length < 1759218604441 then (spec_Newer.l0 k x0 x1 (x5 ++ [(⟨bt1497.1, bt1497.2.1, bt1497.2.2.1, bt1497.2.2.2.1, bt1497.2.2.2.2.1, bt1497.2.2.2.2.2.1, bt1497.2.2.2.2.2.2.1, bt1497.2.2.2.2.2.2.2⟩ : S61)]) (wrap64 (x6 + 1))) else (none))) else (if 0 ≤ t1495 then (if t1495 < (x1.length : Int) then (if ((rd_T61 x1 t1495).f4) < ((rd_T61 x0 x6).f4) then ((spec_l04Copy.f ((rd_T61 x0 x6).f0) ((rd_T61 x0 x6).f1) ((rd_T61 x0 x6).f2) ((rd_T61 x0 x6).f3) ((rd_T61 x0 x6).f4) ((rd_T61 x0 x6).f5) ((rd_T61 x0 x6).f6) ((rd_T61 x0 x6).f7)).bind fun bt1513 => (if x5.length < 1759218604441 then (spec_Newer.l0 k x0 x1 (x5 ++ [(⟨bt1513.1, bt1513.2.1, bt1513.2.2.1, bt1513.2.2.2.1, bt1513.2.2.2.2.1, bt1513.2.2.2.2.2.1, bt1513.2.2.2.2.2.2.1, bt1513.2.2.2.2.2.2.2⟩ : S61)]) (wrap64 (x6 + 1))) else (none))) else (spec_Newer.l0 k x0 x1 x5 (wrap64 (x6 + 1)))) else (none)) else (none)))) else (none)) else (some x5)
def spec_Newer.f (k : Nat) (l0 : List (S61)) (l1 : List (S61)) : Option ((List (S61))) := spec_Newer.l0 k l0 l1 (([] : List (S61))) 0
theorem spec_Newer.mono_l : ∀ k, (∀ y0 y1 y2 y3, LeO (spec_Newer.l0 k y0 y1 y2 y3) (spec_Newer.l0 (k + 1) y0 y1 y2 y3))
 | 0 => fun _ _ _ _ r h => by simp [spec_Newer.l0] at h
 | k + 1 => by
  have ih0 := spec_Newer.mono_l k
  ·intro y0 y1 y2 y3
   unfold spec_Newer.l0
   repeat' first
   | (with_reducible exact ih0 _ _ _ _)
   | (with_reducible exact spec_l05At.mono _ _ _ _ _ _ _ _ _ _)
   | (with_reducible exact LeO.refl _)
   | (with_reducible exact LeO.none _)
   | (with_reducible refine LeO.ite ?_ ?_)
   | (with_reducible refine LeO.bind ?_ (fun _ => ?_))
   | exact ih0 _ _ _ _
   | exact spec_l05At.mono _ _ _ _ _ _ _ _ _ _
   | exact LeO.none _
   | refine LeO.ite ?_ ?_
   | refine LeO.bind ?_ (fun _ => ?_)
theorem spec_Newer.mono : ∀ a0 a1 k, LeO (spec_Newer.f k a0 a1) (spec_Newer.f (k + 1) a0 a1) := by
 intro a0 a1 k
 have ih0 := spec_Newer.mono_l k
 unfold spec_Newer.f
 repeat' first
   | (with_reducible exact ih0 _ _ _ _)
   | (with_reducible exact spec_l05At.mono _ _ _ _ _ _ _ _ _ _)
   | (with_reducible exact LeO.refl _)
   | (with_reducible exact LeO.none _)
   | (with_reducible refine LeO.ite ?_ ?_)
   | (with_reducible refine LeO.bind ?_ (fun _ => ?_))
   | exact ih0 _ _ _ _
   | exact spec_l05At.mono _ _ _ _ _ _ _ _ _ _
   | exact LeO.none _
   | refine LeO.ite ?_ ?_
   | refine LeO.bind ?_ (fun _ => ?_)
set_option maxHeartbeats 8000000 in
set_option maxRecDepth 100000 in
theorem spec_Newer.calls (k : Nat) (A0 : Option Addr) (c0 : Nat) (l0 : List (S61)) (A1 : Option Addr) (c1 : Nat) (l1 : List (S61)) (r : List (S61)) (w : World) (hr0 : Kd.C k61 w A0 l0.length l0) (hc0 : l0.length ≤ c0) (hr1 : Kd.C k61 w A1 l1.length l1) (hc1 : l1.length ≤ c1) (h : spec_Newer.f k l0 l1 = some r) :
  Calls Try.prog 58 #[.slice A0 l0.length c0, .slice A1 l1.length c1] w fun e w' => ∃ v0_ : Value, e = .returned (v0_) ∧ Kd.S k61 61 w' w.heap.size (fun _ => True) v0_ r ∧ Below w.heap.size w w' := by
 have hu61 := Try.underlying61
 have HR0 := Aside0.mk hr0
 have HC0 := Aside0.mk hc0
 clear hr0 hc0
 have HR1 := Aside0.mk hr1
 have HC1 := Aside0.mk hc1
 clear hr1 hc1
 have HB := Aside0.mk (Below.refl w.heap.size w)
 have H : (spec_Newer.l0 k l0 l1 (([] : List (S61))) 0) = some r := h
 clear h
 obtain ⟨y1491, hy1491⟩ : ∃ y_ : List (S61), y_ = (([] : List (S61))) := ⟨_, rfl⟩
 replace H : (spec_Newer.l0 k l0 l1 y1491 0) = some r := by first | (rw [hy1491]; with_reducible exact H) | (have H2_ := (Option.bind_some _ _).symm.trans H; rw [hy1491]; with_reducible exact H2_) | (have H2_ := (Option.bind_some _ _).symm.trans H; with_reducible exact H2_) | with_reducible exact H | (rw [hy1491]; exact H) | exact H
 have Ny1491 := Aside0.mk hy1491
 clear hy1491
 have H' := Aside0.mk H
 clear H
 go_enter Try.func58, Try.ntmps58
 go_wp2_with (first | ((with_reducible refine gate_dst (N := 8) rfl ?_); refine Kd.S_lit k61 _ 61 ?hg (N := 8) ?hd (xs := ([] : List (S61))) (inner := []) (ok := fun _ => True) (okp := fun _ => True) ?hr ?hp (fun _ hk => hk) trivial (Below.refl _ _) (Nat.le_refl _) (by simp) ?_; (case hd => rfl); (case hg => rfl); (case hr => first | (go_simp; done) | (go_simp; rfl)); (case hp => exact (Reps.none _ _)); intro v1492 w3 ho4 hb hg_ hnew_; clear hg_ hnew_; (first | rw [← Ny1491.out] at ho4 | (simp only [Int.reduceToNat] at ho4; rw [← Ny1491.out] at ho4)); have HO1493 := Aside0.mk (Kd.S_lower ho4 (below_size (bw_q HB))); replace HB := Aside0.mk (below_step (bw_q HB) hb); clear hb ho4))
 repeat (go_quiet (first | ((with_reducible refine gate_dst (N := 8) rfl ?_); refine Kd.S_lit k61 _ 61 ?hg (N := 8) ?hd (xs := ([] : List (S61))) (inner := []) (ok := fun _ => True) (okp := fun _ => True) ?hr ?hp (fun _ hk => hk) trivial (Below.refl _ _) (Nat.le_refl _) (by simp) ?_; (case hd => rfl); (case hg => rfl); (case hr => first | (go_simp; done) | (go_simp; rfl)); (case hp => exact (Reps.none _ _)); intro v1492 w3 ho4 hb hg_ hnew_; clear hg_ hnew_; (first | rw [← Ny1491.out] at ho4 | (simp only [Int.reduceToNat] at ho4; rw [← Ny1491.out] at ho4)); have HO1493 := Aside0.mk (Kd.S_lower ho4 (below_size (bw_q HB))); replace HB := Aside0.mk (below_step (bw_q HB) hb); clear hb ho4)); try go_wp2_with (first | ((with_reducible refine gate_dst (N := 8) rfl ?_); refine Kd.S_lit k61 _ 61 ?hg (N := 8) ?hd (xs := ([] : List (S61))) (inner := []) (ok := fun _ => True) (okp := fun _ => True) ?hr ?hp (fun _ hk => hk) trivial (Below.refl _ _) (Nat.le_refl _) (by simp) ?_; (case hd => rfl); (case hg => rfl); (case hr => first | (go_simp; done) | (go_simp; rfl)); (case hp => exact (Reps.none _ _)); intro v1492 w3 ho4 hb hg_ hnew_; clear hg_ hnew_; (first | rw [← Ny1491.out] at ho4 | (simp only [Int.reduceToNat] at ho4; rw [← Ny1491.out] at ho4)); have HO1493 := Aside0.mk (Kd.S_lower ho4 (below_size (bw_q HB))); replace HB := Aside0.mk (below_step (bw_q HB) hb); clear hb ho4)))
 go_loopg [5, 6] k (fun kq v5 v6 w' => ∃ (x5_1 : List (S61)) (x6_1 : Int), v6 = .int .i64 x6_1 ∧ Aside0 (spec_Newer.l0 kq l0 l1 x5_1 x6_1 = some r) ∧ Aside0 (kq ≤ k) ∧ Aside0 (Kd.S k61 61 w' w.heap.size (fun _ => True) v5 x5_1) ∧ Aside0 (Below w.heap.size w w'))
 case atStart => exact ⟨(y1491), (0), (by first | rfl | (simp; done) | (simp [*]; done)), H', ⟨Nat.le_refl _⟩, ⟨by (with_reducible repeat (first | apply Kd.S_alloc | apply Kd.S_drewN | apply Kd.S_drew)); exact HO1493.out⟩, ⟨bw_q HB⟩⟩
 case round =>
  clear H'
  try clear c1
  try clear p2
  obtain ⟨x5_1, x6_1, rfl, HA, HK1, HO_5, HB⟩ := hrel
  cases gk with
  | zero => exact absurd HA.out (by simp [spec_Newer.l0])
  | succ k1 =>
   have H := HA.out
   clear HA
   simp only [spec_Newer.l0] at H
   by_cases c5 : x6_1 < (l0.length : Int)
   ·rw [if_pos c5] at H
    have c5b0 : decide (x6_1 < (l0.length : Int)) = true := decide_eq_true c5
    clear c5
    by_cases c6 : 0 ≤ x6_1
    ·rw [if_pos c6] at H
     have c6b0 : decide (0 ≤ x6_1) = true := decide_eq_true c6
     clear c6
     replace H := Option.bind_eq_some_iff.mp H
     obtain ⟨t1495, A70, H⟩ := H
     replace H : (if t1495 < 0 then ((spec_l04Copy.f ((rd_T61 l0 x6_1).f0) ((rd_T61 l0 x6_1).f1) ((rd_T61 l0 x6_1).f2) ((rd_T61 l0 x6_1).f3) ((rd_T61 l0 x6_1).f4) ((rd_T61 l0 x6_1).f5) ((rd_T61 l0 x6_1).f6) ((rd_T61 l0 x6_1).f7)).bind fun bt1497 => (if x5_1.length < 1759218604441 then (spec_Newer.l0 k1 l0 l1 (x5_1 ++ [(⟨bt1497.1, bt1497.2.1, bt1497.2.2.1, bt1497.2.2.2.1, bt1497.2.2.2.2.1, bt1497.2.2.2.2.2.1, bt1497.2.2.2.2.2.2.1, bt1497.2.2.2.2.2.2.2⟩ : S61)]) (wrap64 (x6_1 + 1))) else (none))) else (if 0 ≤ t1495 then (if t1495 < (l1.length : Int) then (if ((rd_T61 l1 t1495).f4) < ((rd_T61 l0 x6_1).f4) then ((spec_l04Copy.f ((rd_T61 l0 x6_1).f0) ((rd_T61 l0 x6_1).f1) ((rd_T61 l0 x6_1).f2) ((rd_T61 l0 x6_1).f3) ((rd_T61 l0 x6_1).f4) ((rd_T61 l0 x6_1).f5) ((rd_T61 l0 x6_1).f6) ((rd_T61 l0 x6_1).f7)).bind fun bt1513 => (if x5_1.length < 1759218604441 then (spec_Newer.l0 k1 l0 l1 (x5_1 ++ [(⟨bt1513.1, bt1513.2.1, bt1513.2.2.1, bt1513.2.2.2.1, bt1513.2.2.2.2.1, bt1513.2.2.2.2.2.1, bt1513.2.2.2.2.2.2.1, bt1513.2.2.2.2.2.2.2⟩ : S61)]) (wrap64 (x6_1 + 1))) else (none))) else (spec_Newer.l0 k1 l0 l1 x5_1 (wrap64 (x6_1 + 1)))) else (none)) else (none))) = some r := H
     have A7 := Aside0.mk A70
     clear A70
     by_cases c8 : t1495 < 0
     ·rw [if_pos c8] at H
      have c8b0 : decide (t1495 < 0) = true := decide_eq_true c8
      clear c8
      have HC9 := Aside0.mk H
      clear H
      have p1494 : 0 ≤ (x6_1 : Int) := of_decide_eq_true as_q
      have q1494 : x6_1 < (l0.length : Int) := of_decide_eq_true as_q
      obtain ⟨ad1494, A1494_5, c1494_5, e1494, hx1494_0, hx1494_1, hx1494_2, hx1494_3, hx1494_4, hx1494_5, hx1494_6, hx1494_7, hl1494_5, hi1494_5⟩ := at_T61 HR0.out x6_1 p1494 q1494
      cases e1494
      replace hx1494_0 := (HB.out.cell (World.block_lt_of_cell? w _ hx1494_0)).trans hx1494_0
      replace hx1494_1 := (HB.out.cell (World.block_lt_of_cell? w _ hx1494_1)).trans hx1494_1
      replace hx1494_2 := (HB.out.cell (World.block_lt_of_cell? w _ hx1494_2)).trans hx1494_2
      replace hx1494_3 := (HB.out.cell (World.block_lt_of_cell? w _ hx1494_3)).trans hx1494_3
      replace hx1494_4 := (HB.out.cell (World.block_lt_of_cell? w _ hx1494_4)).trans hx1494_4
      replace hx1494_5 := (HB.out.cell (World.block_lt_of_cell? w _ hx1494_5)).trans hx1494_5
      replace hx1494_6 := (HB.out.cell (World.block_lt_of_cell? w _ hx1494_6)).trans hx1494_6
      replace hx1494_7 := (HB.out.cell (World.block_lt_of_cell? w _ hx1494_7)).trans hx1494_7
      have HR1494_5 := Aside0.mk hi1494_5
      have HC1494_5 := Aside0.mk hl1494_5
      clear hi1494_5 hl1494_5
      replace p1494 := eq_true p1494
      replace q1494 := eq_true q1494
      go_upto_if 35 with (first | (go_at_call 105; (with_reducible refine (spec_l05At.calls k1 _ _ l1 ((rd_T61 l0 x6_1).f0) ((rd_T61 l0 x6_1).f1) ((rd_T61 l0 x6_1).f2) ((rd_T61 l0 x6_1).f3) ((rd_T61 l0 x6_1).f4) _ _ ((rd_T61 l0 x6_1).f5) ((rd_T61 l0 x6_1).f6) ((rd_T61 l0 x6_1).f7) t1495 _ ?side1 ?side2 ?side3 ?side4 A7.out).mono ?_); (case side1 => exact cs_q (Kd.C_below HR1.out HB.out)); (case side2 => exact HC1.out); (case side3 => exact cs_q (Kd.C_below HR1494_5.out HB.out)); (case side4 => exact HC1494_5.out); rintro e w10 ⟨rfl, hb⟩; replace HO_5 := Aside0.mk (Kd.S_below (kS_q HO_5) hb); replace HB := Aside0.mk (below_step (bw_q HB) hb); (try clear hb); (try clear hb2); (try clear hk); (try clear hi)))
      repeat (go_quiet (first | (go_at_call 105; (with_reducible refine (spec_l05At.calls k1 _ _ l1 ((rd_T61 l0 x6_1).f0) ((rd_T61 l0 x6_1).f1) ((rd_T61 l0 x6_1).f2) ((rd_T61 l0 x6_1).f3) ((rd_T61 l0 x6_1).f4) _ _ ((rd_T61 l0 x6_1).f5) ((rd_T61 l0 x6_1).f6) ((rd_T61 l0 x6_1).f7) t1495 _ ?side1 ?side2 ?side3 ?side4 A7.out).mono ?_); (case side1 => exact cs_q (Kd.C_below HR1.out HB.out)); (case side2 => exact HC1.out); (case side3 => exact cs_q (Kd.C_below HR1494_5.out HB.out)); (case side4 => exact HC1494_5.out); rintro e w10 ⟨rfl, hb⟩; replace HO_5 := Aside0.mk (Kd.S_below (kS_q HO_5) hb); replace HB := Aside0.mk (below_step (bw_q HB) hb); (try clear hb); (try clear hb2); (try clear hk); (try clear hi))); go_upto_if 35 with (first | (go_at_call 105; (with_reducible refine (spec_l05At.calls k1 _ _ l1 ((rd_T61 l0 x6_1).f0) ((rd_T61 l0 x6_1).f1) ((rd_T61 l0 x6_1).f2) ((rd_T61 l0 x6_1).f3) ((rd_T61 l0 x6_1).f4) _ _ ((rd_T61 l0 x6_1).f5) ((rd_T61 l0 x6_1).f6) ((rd_T61 l0 x6_1).f7) t1495 _ ?side1 ?side2 ?side3 ?side4 A7.out).mono ?_); (case side1 => exact cs_q (Kd.C_below HR1.out HB.out)); (case side2 => exact HC1.out); (case side3 => exact cs_q (Kd.C_below HR1494_5.out HB.out)); (case side4 => exact HC1494_5.out); rintro e w10 ⟨rfl, hb⟩; replace HO_5 := Aside0.mk (Kd.S_below (kS_q HO_5) hb); replace HB := Aside0.mk (below_step (bw_q HB) hb); (try clear hb); (try clear hb2); (try clear hk); (try clear hi))))
      (try clear hx1494_0); (try clear hx1494_1); (try clear hx1494_2); (try clear hx1494_3); (try clear hx1494_4); (try clear hx1494_5); (try clear hx1494_6); (try clear hx1494_7)
      have H := HC9.out
      clear HC9
      replace H := Option.bind_eq_some_iff.mp H
      obtain ⟨⟨t1497, t1498, t1499, t1500, t1501, t1502, t1505, t1506⟩, A110, H⟩ := H
      replace H : (if x5_1.length < 1759218604441 then (spec_Newer.l0 k1 l0 l1 (x5_1 ++ [(⟨t1497, t1498, t1499, t1500, t1501, t1502, t1505, t1506⟩ : S61)]) (wrap64 (x6_1 + 1))) else (none)) = some r := H
      have A11 := Aside0.mk A110
      clear A110
      by_cases c12 : x5_1.length < 1759218604441
      ·rw [if_pos c12] at H
       have LMc12 := Aside0.mk c12
       clear c12
       obtain ⟨y1507, hy1507⟩ : ∃ y_ : List (S61), y_ = (x5_1 ++ [(⟨t1497, t1498, t1499, t1500, t1501, t1502, t1505, t1506⟩ : S61)]) := ⟨_, rfl⟩
       replace H : (spec_Newer.l0 k1 l0 l1 y1507 (wrap64 (x6_1 + 1))) = some r := by first | (rw [hy1507]; with_reducible exact H) | (have H2_ := (Option.bind_some _ _).symm.trans H; rw [hy1507]; with_reducible exact H2_) | (have H2_ := (Option.bind_some _ _).symm.trans H; with_reducible exact H2_) | with_reducible exact H | (rw [hy1507]; exact H) | exact H
       have Ny1507 := Aside0.mk hy1507
       clear hy1507
       have H' := Aside0.mk H
       clear H
       have p1496 : 0 ≤ (x6_1 : Int) := of_decide_eq_true as_q
       have q1496 : x6_1 < (l0.length : Int) := of_decide_eq_true as_q
       obtain ⟨ad1496, A1496_5, c1496_5, e1496, hx1496_0, hx1496_1, hx1496_2, hx1496_3, hx1496_4, hx1496_5, hx1496_6, hx1496_7, hl1496_5, hi1496_5⟩ := at_T61 HR0.out x6_1 p1496 q1496
       obtain rfl : ad1494 = ad1496 := (by injection e1496)
       replace hx1496_0 := (HB.out.cell (World.block_lt_of_cell? w _ hx1496_0)).trans hx1496_0
       replace hx1496_1 := (HB.out.cell (World.block_lt_of_cell? w _ hx1496_1)).trans hx1496_1
       replace hx1496_2 := (HB.out.cell (World.block_lt_of_cell? w _ hx1496_2)).trans hx1496_2
       replace hx1496_3 := (HB.out.cell (World.block_lt_of_cell? w _ hx1496_3)).trans hx1496_3
       replace hx1496_4 := (HB.out.cell (World.block_lt_of_cell? w _ hx1496_4)).trans hx1496_4
       replace hx1496_5 := (HB.out.cell (World.block_lt_of_cell? w _ hx1496_5)).trans hx1496_5
       replace hx1496_6 := (HB.out.cell (World.block_lt_of_cell? w _ hx1496_6)).trans hx1496_6
       replace hx1496_7 := (HB.out.cell (World.block_lt_of_cell? w _ hx1496_7)).trans hx1496_7
       have HR1496_5 := Aside0.mk hi1496_5
       have HC1496_5 := Aside0.mk hl1496_5
       clear hi1496_5 hl1496_5
       replace p1496 := eq_true p1496
       replace q1496 := eq_true q1496
       go_wp2_with (first | (go_at_call 94; (with_reducible refine (spec_l04Copy.calls ((rd_T61 l0 x6_1).f0) ((rd_T61 l0 x6_1).f1) ((rd_T61 l0 x6_1).f2) ((rd_T61 l0 x6_1).f3) ((rd_T61 l0 x6_1).f4) _ _ ((rd_T61 l0 x6_1).f5) ((rd_T61 l0 x6_1).f6) ((rd_T61 l0 x6_1).f7) t1497 t1498 t1499 t1500 t1501 t1502 t1505 t1506 _ ?side1 ?side2 A11.out).mono ?_); (case side1 => exact cs_q (Kd.C_below HR1496_5.out HB.out)); (case side2 => exact HC1496_5.out); rintro e w13 ⟨v1503, rfl, ho0, hb⟩; have hs_v1503 : (v1503 : Value).oneCell' = true := (by first | (obtain ⟨A_, c_, e_⟩ := Kd.R_slice ho0; simp [e_, Value.oneCell']) | (obtain ⟨A_, c_, e_⟩ := Kd.S_slice ho0; simp [e_, Value.oneCell']) | (obtain ⟨A_, c_, e_⟩ := Kd.N_slice ho0; simp [e_, Value.oneCell']) | (obtain ⟨A_, c_, e_⟩ := Kd.V_slice ho0; simp [e_, Value.oneCell'])); have hst_v1503 := fun (w_ : World) (a_ : Addr) m_ => run_store Try.prog w_ a_ v1503 m_ hs_v1503; replace HO_5 := Aside0.mk (Kd.S_elder' (kS_q HO_5) (Kd.R_base ho0) hb); have HO1504 := Aside0.mk (Kd.R_lower ho0 (below_size (bw_q HB))); replace HB := Aside0.mk (below_step (bw_q HB) hb); (try clear hb); (try clear hb2); (try clear hk); (try clear hi); (try clear ho0); obtain ⟨Ao15, co15, eo15⟩ := Kd.R_slice HO1504.out; subst eo15) | ((with_reducible refine gate_builtin (b := .append) (xs := #[.tmp 36, .tmp 42]) rfl ?_); at_builtin; refine Kd.S_append k61 (w0 := w) w.heap.size rfl (.tmp 36) (.tmp 42) 41 61 (.agg #[(.int .i64 0), (.int .i64 0), (.int .i64 0), (.int .i64 0), (.int .i64 0), (.slice none 0 0), (.int .i64 0), (.bool false)]) 80 rfl Try.underlying41 info61 rfl (by decide) (by omega) u5 x5_1 (⟨t1497, t1498, t1499, t1500, t1501, t1502, t1505, t1506⟩ : S61) [.int .i64 t1497, .int .i64 t1498, .int .i64 t1499, .int .i64 t1500, .int .i64 t1501, .slice Ao15 t1502.length co15, .int .i64 t1505, .bool t1506] (fun _ => True) (fun k_ => some k_ = (.slice Ao15 t1502.length co15 : Value).ownBlock) rfl rfl ?aP (fun k_ hk_ => ((Kd.R_mono (ok' := fun k_ => ((fun _ => True)) k_ ∧ some k_ ≠ (u5 : Value).ownBlock) (Kd.R_apart' (HO1504.out) (Kd.S_typed HO_5.out) (by decide)) (fun k_ hk => ⟨trivial, hk.2⟩))).1 k_ hk_.symm) ?aF ?aO ?aB ?aS ?aL ?_; (case aP => exact k61_mkM _ _ _ (⟨t1497, t1498, t1499, t1500, t1501, t1502, t1505, t1506⟩ : S61) (Kd.R_mono (Kd.R_tight rfl (Kd.R_mono (ok' := fun k_ => ((fun _ => True)) k_ ∧ some k_ ≠ (u5 : Value).ownBlock) (Kd.R_apart' (HO1504.out) (Kd.S_typed HO_5.out) (by decide)) (fun k_ hk => ⟨trivial, hk.2⟩))) (fun _ h_ => h_))); (case aB => exact (bw_q HB)); (case aF => exact (fun _ _ => trivial)); (case aO => exact (by (with_reducible repeat (first | apply Kd.S_alloc | apply Kd.S_drewN | apply Kd.S_drew)); exact Kd.S_mono HO_5.out (fun k_ hk => ⟨trivial, fun e_ => hk.2 e_⟩))); (case aS => exact (below_size (bw_q HB))); (case aL => have := LMc12.out; omega); intro v1508 w14 ho hb hg hat; rw [← Ny1507.out] at ho; replace HB := Aside0.mk (hb); have HO1509 := Aside0.mk (ho); clear HO_5 HO1504; clear ho hb hg hat))
       repeat (go_quiet (first | (go_at_call 94; (with_reducible refine (spec_l04Copy.calls ((rd_T61 l0 x6_1).f0) ((rd_T61 l0 x6_1).f1) ((rd_T61 l0 x6_1).f2) ((rd_T61 l0 x6_1).f3) ((rd_T61 l0 x6_1).f4) _ _ ((rd_T61 l0 x6_1).f5) ((rd_T61 l0 x6_1).f6) ((rd_T61 l0 x6_1).f7) t1497 t1498 t1499 t1500 t1501 t1502 t1505 t1506 _ ?side1 ?side2 A11.out).mono ?_); (case side1 => exact cs_q (Kd.C_below HR1496_5.out HB.out)); (case side2 => exact HC1496_5.out); rintro e w13 ⟨v1503, rfl, ho0, hb⟩; have hs_v1503 : (v1503 : Value).oneCell' = true := (by first | (obtain ⟨A_, c_, e_⟩ := Kd.R_slice ho0; simp [e_, Value.oneCell']) | (obtain ⟨A_, c_, e_⟩ := Kd.S_slice ho0; simp [e_, Value.oneCell']) | (obtain ⟨A_, c_, e_⟩ := Kd.N_slice ho0; simp [e_, Value.oneCell']) | (obtain ⟨A_, c_, e_⟩ := Kd.V_slice ho0; simp [e_, Value.oneCell'])); have hst_v1503 := fun (w_ : World) (a_ : Addr) m_ => run_store Try.prog w_ a_ v1503 m_ hs_v1503; replace HO_5 := Aside0.mk (Kd.S_elder' (kS_q HO_5) (Kd.R_base ho0) hb); have HO1504 := Aside0.mk (Kd.R_lower ho0 (below_size (bw_q HB))); replace HB := Aside0.mk (below_step (bw_q HB) hb); (try clear hb); (try clear hb2); (try clear hk); (try clear hi); (try clear ho0); obtain ⟨Ao15, co15, eo15⟩ := Kd.R_slice HO1504.out; subst eo15) | ((with_reducible refine gate_builtin (b := .append) (xs := #[.tmp 36, .tmp 42]) rfl ?_); at_builtin; refine Kd.S_append k61 (w0 := w) w.heap.size rfl (.tmp 36) (.tmp 42) 41 61 (.agg #[(.int .i64 0), (.int .i64 0), (.int .i64 0), (.int .i64 0), (.int .i64 0), (.slice none 0 0), (.int .i64 0), (.bool false)]) 80 rfl Try.underlying41 info61 rfl (by decide) (by omega) u5 x5_1 (⟨t1497, t1498, t1499, t1500, t1501, t1502, t1505, t1506⟩ : S61) [.int .i64 t1497, .int .i64 t1498, .int .i64 t1499, .int .i64 t1500, .int .i64 t1501, .slice Ao15 t1502.length co15, .int .i64 t1505, .bool t1506] (fun _ => True) (fun k_ => some k_ = (.slice Ao15 t1502.length co15 : Value).ownBlock) rfl rfl ?aP (fun k_ hk_ => ((Kd.R_mono (ok' := fun k_ => ((fun _ => True)) k_ ∧ some k_ ≠ (u5 : Value).ownBlock) (Kd.R_apart' (HO1504.out) (Kd.S_typed HO_5.out) (by decide)) (fun k_ hk => ⟨trivial, hk.2⟩))).1 k_ hk_.symm) ?aF ?aO ?aB ?aS ?aL ?_; (case aP => exact k61_mkM _ _ _ (⟨t1497, t1498, t1499, t1500, t1501, t1502, t1505, t1506⟩ : S61) (Kd.R_mono (Kd.R_tight rfl (Kd.R_mono (ok' := fun k_ => ((fun _ => True)) k_ ∧ some k_ ≠ (u5 : Value).ownBlock) (Kd.R_apart' (HO1504.out) (Kd.S_typed HO_5.out) (by decide)) (fun k_ hk => ⟨trivial, hk.2⟩))) (fun _ h_ => h_))); (case aB => exact (bw_q HB)); (case aF => exact (fun _ _ => trivial)); (case aO => exact (by (with_reducible repeat (first | apply Kd.S_alloc | apply Kd.S_drewN | apply Kd.S_drew)); exact Kd.S_mono HO_5.out (fun k_ hk => ⟨trivial, fun e_ => hk.2 e_⟩))); (case aS => exact (below_size (bw_q HB))); (case aL => have := LMc12.out; omega); intro v1508 w14 ho hb hg hat; rw [← Ny1507.out] at ho; replace HB := Aside0.mk (hb); have HO1509 := Aside0.mk (ho); clear HO_5 HO1504; clear ho hb hg hat)); try go_wp2_with (first | (go_at_call 94; (with_reducible refine (spec_l04Copy.calls ((rd_T61 l0 x6_1).f0) ((rd_T61 l0 x6_1).f1) ((rd_T61 l0 x6_1).f2) ((rd_T61 l0 x6_1).f3) ((rd_T61 l0 x6_1).f4) _ _ ((rd_T61 l0 x6_1).f5) ((rd_T61 l0 x6_1).f6) ((rd_T61 l0 x6_1).f7) t1497 t1498 t1499 t1500 t1501 t1502 t1505 t1506 _ ?side1 ?side2 A11.out).mono ?_); (case side1 => exact cs_q (Kd.C_below HR1496_5.out HB.out)); (case side2 => exact HC1496_5.out); rintro e w13 ⟨v1503, rfl, ho0, hb⟩; have hs_v1503 : (v1503 : Value).oneCell' = true := (by first | (obtain ⟨A_, c_, e_⟩ := Kd.R_slice ho0; simp [e_, Value.oneCell']) | (obtain ⟨A_, c_, e_⟩ := Kd.S_slice ho0; simp [e_, Value.oneCell']) | (obtain ⟨A_, c_, e_⟩ := Kd.N_slice ho0; simp [e_, Value.oneCell']) | (obtain ⟨A_, c_, e_⟩ := Kd.V_slice ho0; simp [e_, Value.oneCell'])); have hst_v1503 := fun (w_ : World) (a_ : Addr) m_ => run_store Try.prog w_ a_ v1503 m_ hs_v1503; replace HO_5 := Aside0.mk (Kd.S_elder' (kS_q HO_5) (Kd.R_base ho0) hb); have HO1504 := Aside0.mk (Kd.R_lower ho0 (below_size (bw_q HB))); replace HB := Aside0.mk (below_step (bw_q HB) hb); (try clear hb); (try clear hb2); (try clear hk); (try clear hi); (try clear ho0); obtain ⟨Ao15, co15, eo15⟩ := Kd.R_slice HO1504.out; subst eo15) | ((with_reducible refine gate_builtin (b := .append) (xs := #[.tmp 36, .tmp 42]) rfl ?_); at_builtin; refine Kd.S_append k61 (w0 := w) w.heap.size rfl (.tmp 36) (.tmp 42) 41 61 (.agg #[(.int .i64 0), (.int .i64 0), (.int .i64 0), (.int .i64 0), (.int .i64 0), (.slice none 0 0), (.int .i64 0), (.bool false)]) 80 rfl Try.underlying41 info61 rfl (by decide) (by omega) u5 x5_1 (⟨t1497, t1498, t1499, t1500, t1501, t1502, t1505, t1506⟩ : S61) [.int .i64 t1497, .int .i64 t1498, .int .i64 t1499, .int .i64 t1500, .int .i64 t1501, .slice Ao15 t1502.length co15, .int .i64 t1505, .bool t1506] (fun _ => True) (fun k_ => some k_ = (.slice Ao15 t1502.length co15 : Value).ownBlock) rfl rfl ?aP (fun k_ hk_ => ((Kd.R_mono (ok' := fun k_ => ((fun _ => True)) k_ ∧ some k_ ≠ (u5 : Value).ownBlock) (Kd.R_apart' (HO1504.out) (Kd.S_typed HO_5.out) (by decide)) (fun k_ hk => ⟨trivial, hk.2⟩))).1 k_ hk_.symm) ?aF ?aO ?aB ?aS ?aL ?_; (case aP => exact k61_mkM _ _ _ (⟨t1497, t1498, t1499, t1500, t1501, t1502, t1505, t1506⟩ : S61) (Kd.R_mono (Kd.R_tight rfl (Kd.R_mono (ok' := fun k_ => ((fun _ => True)) k_ ∧ some k_ ≠ (u5 : Value).ownBlock) (Kd.R_apart' (HO1504.out) (Kd.S_typed HO_5.out) (by decide)) (fun k_ hk => ⟨trivial, hk.2⟩))) (fun _ h_ => h_))); (case aB => exact (bw_q HB)); (case aF => exact (fun _ _ => trivial)); (case aO => exact (by (with_reducible repeat (first | apply Kd.S_alloc | apply Kd.S_drewN | apply Kd.S_drew)); exact Kd.S_mono HO_5.out (fun k_ hk => ⟨trivial, fun e_ => hk.2 e_⟩))); (case aS => exact (below_size (bw_q HB))); (case aL => have := LMc12.out; omega); intro v1508 w14 ho hb hg hat; rw [← Ny1507.out] at ho; replace HB := Aside0.mk (hb); have HO1509 := Aside0.mk (ho); clear HO_5 HO1504; clear ho hb hg hat)))
       go_roundg k1
       case measure => have := HK1.out; omega
       case rel => exact ⟨(y1507), (wrap64 (x6_1 + 1)), (by first | rfl | (simp; done) | (simp [*]; done)), H', ⟨by have := HK1.out; omega⟩, ⟨by (with_reducible repeat (first | apply Kd.S_alloc | apply Kd.S_drewN | apply Kd.S_drew)); exact HO1509.out⟩, ⟨bw_q HB⟩⟩
      ·rw [if_neg c12] at H
       exact absurd H (by simp)
     ·rw [if_neg c8] at H
      have c8b0 : decide (t1495 < 0) = false := decide_eq_false c8
      clear c8
      by_cases c16 : 0 ≤ t1495
      ·rw [if_pos c16] at H
       have c16b0 : decide (0 ≤ t1495) = true := decide_eq_true c16
       clear c16
       by_cases c17 : t1495 < (l1.length : Int)
       ·rw [if_pos c17] at H
        have c17b0 : decide (t1495 < (l1.length : Int)) = true := decide_eq_true c17
        clear c17
        have HC18 := Aside0.mk H
        clear H
        have p1494 : 0 ≤ (x6_1 : Int) := of_decide_eq_true as_q
        have q1494 : x6_1 < (l0.length : Int) := of_decide_eq_true as_q
        obtain ⟨ad1494, A1494_5, c1494_5, e1494, hx1494_0, hx1494_1, hx1494_2, hx1494_3, hx1494_4, hx1494_5, hx1494_6, hx1494_7, hl1494_5, hi1494_5⟩ := at_T61 HR0.out x6_1 p1494 q1494
        cases e1494
        replace hx1494_0 := (HB.out.cell (World.block_lt_of_cell? w _ hx1494_0)).trans hx1494_0
        replace hx1494_1 := (HB.out.cell (World.block_lt_of_cell? w _ hx1494_1)).trans hx1494_1
        replace hx1494_2 := (HB.out.cell (World.block_lt_of_cell? w _ hx1494_2)).trans hx1494_2
        replace hx1494_3 := (HB.out.cell (World.block_lt_of_cell? w _ hx1494_3)).trans hx1494_3
        replace hx1494_4 := (HB.out.cell (World.block_lt_of_cell? w _ hx1494_4)).trans hx1494_4
        replace hx1494_5 := (HB.out.cell (World.block_lt_of_cell? w _ hx1494_5)).trans hx1494_5
        replace hx1494_6 := (HB.out.cell (World.block_lt_of_cell? w _ hx1494_6)).trans hx1494_6
        replace hx1494_7 := (HB.out.cell (World.block_lt_of_cell? w _ hx1494_7)).trans hx1494_7
        have HR1494_5 := Aside0.mk hi1494_5
        have HC1494_5 := Aside0.mk hl1494_5
        clear hi1494_5 hl1494_5
        replace p1494 := eq_true p1494
        replace q1494 := eq_true q1494
        go_upto_if 35 with (first | (go_at_call 105; (with_reducible refine (spec_l05At.calls k1 _ _ l1 ((rd_T61 l0 x6_1).f0) ((rd_T61 l0 x6_1).f1) ((rd_T61 l0 x6_1).f2) ((rd_T61 l0 x6_1).f3) ((rd_T61 l0 x6_1).f4) _ _ ((rd_T61 l0 x6_1).f5) ((rd_T61 l0 x6_1).f6) ((rd_T61 l0 x6_1).f7) t1495 _ ?side1 ?side2 ?side3 ?side4 A7.out).mono ?_); (case side1 => exact cs_q (Kd.C_below HR1.out HB.out)); (case side2 => exact HC1.out); (case side3 => exact cs_q (Kd.C_below HR1494_5.out HB.out)); (case side4 => exact HC1494_5.out); rintro e w19 ⟨rfl, hb⟩; replace HO_5 := Aside0.mk (Kd.S_below (kS_q HO_5) hb); replace HB := Aside0.mk (below_step (bw_q HB) hb); (try clear hb); (try clear hb2); (try clear hk); (try clear hi); have p1510 : 0 ≤ (t1495 : Int) := of_decide_eq_true as_q; have q1510 : t1495 < (l1.length : Int) := of_decide_eq_true as_q; obtain ⟨ad1510, A1510_5, c1510_5, e1510, hx1510_0, hx1510_1, hx1510_2, hx1510_3, hx1510_4, hx1510_5, hx1510_6, hx1510_7, hl1510_5, hi1510_5⟩ := at_T61 HR1.out t1495 p1510 q1510; cases e1510; replace hx1510_0 := (HB.out.cell (World.block_lt_of_cell? w _ hx1510_0)).trans hx1510_0; replace hx1510_1 := (HB.out.cell (World.block_lt_of_cell? w _ hx1510_1)).trans hx1510_1; replace hx1510_2 := (HB.out.cell (World.block_lt_of_cell? w _ hx1510_2)).trans hx1510_2; replace hx1510_3 := (HB.out.cell (World.block_lt_of_cell? w _ hx1510_3)).trans hx1510_3; replace hx1510_4 := (HB.out.cell (World.block_lt_of_cell? w _ hx1510_4)).trans hx1510_4; replace hx1510_5 := (HB.out.cell (World.block_lt_of_cell? w _ hx1510_5)).trans hx1510_5; replace hx1510_6 := (HB.out.cell (World.block_lt_of_cell? w _ hx1510_6)).trans hx1510_6; replace hx1510_7 := (HB.out.cell (World.block_lt_of_cell? w _ hx1510_7)).trans hx1510_7; have HR1510_5 := Aside0.mk hi1510_5; have HC1510_5 := Aside0.mk hl1510_5; clear hi1510_5 hl1510_5; replace p1510 := eq_true p1510; replace q1510 := eq_true q1510; have p1511 : 0 ≤ (x6_1 : Int) := of_decide_eq_true as_q; have q1511 : x6_1 < (l0.length : Int) := of_decide_eq_true as_q; obtain ⟨ad1511, A1511_5, c1511_5, e1511, hx1511_0, hx1511_1, hx1511_2, hx1511_3, hx1511_4, hx1511_5, hx1511_6, hx1511_7, hl1511_5, hi1511_5⟩ := at_T61 HR0.out x6_1 p1511 q1511; obtain rfl : ad1494 = ad1511 := (by injection e1511); replace hx1511_0 := (HB.out.cell (World.block_lt_of_cell? w _ hx1511_0)).trans hx1511_0; replace hx1511_1 := (HB.out.cell (World.block_lt_of_cell? w _ hx1511_1)).trans hx1511_1; replace hx1511_2 := (HB.out.cell (World.block_lt_of_cell? w _ hx1511_2)).trans hx1511_2; replace hx1511_3 := (HB.out.cell (World.block_lt_of_cell? w _ hx1511_3)).trans hx1511_3; replace hx1511_4 := (HB.out.cell (World.block_lt_of_cell? w _ hx1511_4)).trans hx1511_4; replace hx1511_5 := (HB.out.cell (World.block_lt_of_cell? w _ hx1511_5)).trans hx1511_5; replace hx1511_6 := (HB.out.cell (World.block_lt_of_cell? w _ hx1511_6)).trans hx1511_6; replace hx1511_7 := (HB.out.cell (World.block_lt_of_cell? w _ hx1511_7)).trans hx1511_7; have HR1511_5 := Aside0.mk hi1511_5; have HC1511_5 := Aside0.mk hl1511_5; clear hi1511_5 hl1511_5; replace p1511 := eq_true p1511; replace q1511 := eq_true q1511))
        repeat (go_quiet (first | (go_at_call 105; (with_reducible refine (spec_l05At.calls k1 _ _ l1 ((rd_T61 l0 x6_1).f0) ((rd_T61 l0 x6_1).f1) ((rd_T61 l0 x6_1).f2) ((rd_T61 l0 x6_1).f3) ((rd_T61 l0 x6_1).f4) _ _ ((rd_T61 l0 x6_1).f5) ((rd_T61 l0 x6_1).f6) ((rd_T61 l0 x6_1).f7) t1495 _ ?side1 ?side2 ?side3 ?side4 A7.out).mono ?_); (case side1 => exact cs_q (Kd.C_below HR1.out HB.out)); (case side2 => exact HC1.out); (case side3 => exact cs_q (Kd.C_below HR1494_5.out HB.out)); (case side4 => exact HC1494_5.out); rintro e w19 ⟨rfl, hb⟩; replace HO_5 := Aside0.mk (Kd.S_below (kS_q HO_5) hb); replace HB := Aside0.mk (below_step (bw_q HB) hb); (try clear hb); (try clear hb2); (try clear hk); (try clear hi); have p1510 : 0 ≤ (t1495 : Int) := of_decide_eq_true as_q; have q1510 : t1495 < (l1.length : Int) := of_decide_eq_true as_q; obtain ⟨ad1510, A1510_5, c1510_5, e1510, hx1510_0, hx1510_1, hx1510_2, hx1510_3, hx1510_4, hx1510_5, hx1510_6, hx1510_7, hl1510_5, hi1510_5⟩ := at_T61 HR1.out t1495 p1510 q1510; cases e1510; replace hx1510_0 := (HB.out.cell (World.block_lt_of_cell? w _ hx1510_0)).trans hx1510_0; replace hx1510_1 := (HB.out.cell (World.block_lt_of_cell? w _ hx1510_1)).trans hx1510_1; replace hx1510_2 := (HB.out.cell (World.block_lt_of_cell? w _ hx1510_2)).trans hx1510_2; replace hx1510_3 := (HB.out.cell (World.block_lt_of_cell? w _ hx1510_3)).trans hx1510_3; replace hx1510_4 := (HB.out.cell (World.block_lt_of_cell? w _ hx1510_4)).trans hx1510_4; replace hx1510_5 := (HB.out.cell (World.block_lt_of_cell? w _ hx1510_5)).trans hx1510_5; replace hx1510_6 := (HB.out.cell (World.block_lt_of_cell? w _ hx1510_6)).trans hx1510_6; replace hx1510_7 := (HB.out.cell (World.block_lt_of_cell? w _ hx1510_7)).trans hx1510_7; have HR1510_5 := Aside0.mk hi1510_5; have HC1510_5 := Aside0.mk hl1510_5; clear hi1510_5 hl1510_5; replace p1510 := eq_true p1510; replace q1510 := eq_true q1510; have p1511 : 0 ≤ (x6_1 : Int) := of_decide_eq_true as_q; have q1511 : x6_1 < (l0.length : Int) := of_decide_eq_true as_q; obtain ⟨ad1511, A1511_5, c1511_5, e1511, hx1511_0, hx1511_1, hx1511_2, hx1511_3, hx1511_4, hx1511_5, hx1511_6, hx1511_7, hl1511_5, hi1511_5⟩ := at_T61 HR0.out x6_1 p1511 q1511; obtain rfl : ad1494 = ad1511 := (by injection e1511); replace hx1511_0 := (HB.out.cell (World.block_lt_of_cell? w _ hx1511_0)).trans hx1511_0; replace hx1511_1 := (HB.out.cell (World.block_lt_of_cell? w _ hx1511_1)).trans hx1511_1; replace hx1511_2 := (HB.out.cell (World.block_lt_of_cell? w _ hx1511_2)).trans hx1511_2; replace hx1511_3 := (HB.out.cell (World.block_lt_of_cell? w _ hx1511_3)).trans hx1511_3; replace hx1511_4 := (HB.out.cell (World.block_lt_of_cell? w _ hx1511_4)).trans hx1511_4; replace hx1511_5 := (HB.out.cell (World.block_lt_of_cell? w _ hx1511_5)).trans hx1511_5; replace hx1511_6 := (HB.out.cell (World.block_lt_of_cell? w _ hx1511_6)).trans hx1511_6; replace hx1511_7 := (HB.out.cell (World.block_lt_of_cell? w _ hx1511_7)).trans hx1511_7; have HR1511_5 := Aside0.mk hi1511_5; have HC1511_5 := Aside0.mk hl1511_5; clear hi1511_5 hl1511_5; replace p1511 := eq_true p1511; replace q1511 := eq_true q1511)); go_upto_if 35 with (first | (go_at_call 105; (with_reducible refine (spec_l05At.calls k1 _ _ l1 ((rd_T61 l0 x6_1).f0) ((rd_T61 l0 x6_1).f1) ((rd_T61 l0 x6_1).f2) ((rd_T61 l0 x6_1).f3) ((rd_T61 l0 x6_1).f4) _ _ ((rd_T61 l0 x6_1).f5) ((rd_T61 l0 x6_1).f6) ((rd_T61 l0 x6_1).f7) t1495 _ ?side1 ?side2 ?side3 ?side4 A7.out).mono ?_); (case side1 => exact cs_q (Kd.C_below HR1.out HB.out)); (case side2 => exact HC1.out); (case side3 => exact cs_q (Kd.C_below HR1494_5.out HB.out)); (case side4 => exact HC1494_5.out); rintro e w19 ⟨rfl, hb⟩; replace HO_5 := Aside0.mk (Kd.S_below (kS_q HO_5) hb); replace HB := Aside0.mk (below_step (bw_q HB) hb); (try clear hb); (try clear hb2); (try clear hk); (try clear hi); have p1510 : 0 ≤ (t1495 : Int) := of_decide_eq_true as_q; have q1510 : t1495 < (l1.length : Int) := of_decide_eq_true as_q; obtain ⟨ad1510, A1510_5, c1510_5, e1510, hx1510_0, hx1510_1, hx1510_2, hx1510_3, hx1510_4, hx1510_5, hx1510_6, hx1510_7, hl1510_5, hi1510_5⟩ := at_T61 HR1.out t1495 p1510 q1510; cases e1510; replace hx1510_0 := (HB.out.cell (World.block_lt_of_cell? w _ hx1510_0)).trans hx1510_0; replace hx1510_1 := (HB.out.cell (World.block_lt_of_cell? w _ hx1510_1)).trans hx1510_1; replace hx1510_2 := (HB.out.cell (World.block_lt_of_cell? w _ hx1510_2)).trans hx1510_2; replace hx1510_3 := (HB.out.cell (World.block_lt_of_cell? w _ hx1510_3)).trans hx1510_3; replace hx1510_4 := (HB.out.cell (World.block_lt_of_cell? w _ hx1510_4)).trans hx1510_4; replace hx1510_5 := (HB.out.cell (World.block_lt_of_cell? w _ hx1510_5)).trans hx1510_5; replace hx1510_6 := (HB.out.cell (World.block_lt_of_cell? w _ hx1510_6)).trans hx1510_6; replace hx1510_7 := (HB.out.cell (World.block_lt_of_cell? w _ hx1510_7)).trans hx1510_7; have HR1510_5 := Aside0.mk hi1510_5; have HC1510_5 := Aside0.mk hl1510_5; clear hi1510_5 hl1510_5; replace p1510 := eq_true p1510; replace q1510 := eq_true q1510; have p1511 : 0 ≤ (x6_1 : Int) := of_decide_eq_true as_q; have q1511 : x6_1 < (l0.length : Int) := of_decide_eq_true as_q; obtain ⟨ad1511, A1511_5, c1511_5, e1511, hx1511_0, hx1511_1, hx1511_2, hx1511_3, hx1511_4, hx1511_5, hx1511_6, hx1511_7, hl1511_5, hi1511_5⟩ := at_T61 HR0.out x6_1 p1511 q1511; obtain rfl : ad1494 = ad1511 := (by injection e1511); replace hx1511_0 := (HB.out.cell (World.block_lt_of_cell? w _ hx1511_0)).trans hx1511_0; replace hx1511_1 := (HB.out.cell (World.block_lt_of_cell? w _ hx1511_1)).trans hx1511_1; replace hx1511_2 := (HB.out.cell (World.block_lt_of_cell? w _ hx1511_2)).trans hx1511_2; replace hx1511_3 := (HB.out.cell (World.block_lt_of_cell? w _ hx1511_3)).trans hx1511_3; replace hx1511_4 := (HB.out.cell (World.block_lt_of_cell? w _ hx1511_4)).trans hx1511_4; replace hx1511_5 := (HB.out.cell (World.block_lt_of_cell? w _ hx1511_5)).trans hx1511_5; replace hx1511_6 := (HB.out.cell (World.block_lt_of_cell? w _ hx1511_6)).trans hx1511_6; replace hx1511_7 := (HB.out.cell (World.block_lt_of_cell? w _ hx1511_7)).trans hx1511_7; have HR1511_5 := Aside0.mk hi1511_5; have HC1511_5 := Aside0.mk hl1511_5; clear hi1511_5 hl1511_5; replace p1511 := eq_true p1511; replace q1511 := eq_true q1511)))
        (try clear hx1494_0); (try clear hx1494_1); (try clear hx1494_2); (try clear hx1494_3); (try clear hx1494_4); (try clear hx1494_5); (try clear hx1494_6); (try clear hx1494_7); (try clear hx1510_0); (try clear hx1510_1); (try clear hx1510_2); (try clear hx1510_3); (try clear hx1510_4); (try clear hx1510_5); (try clear hx1510_6); (try clear hx1510_7); (try clear hx1511_0); (try clear hx1511_1); (try clear hx1511_2); (try clear hx1511_3); (try clear hx1511_4); (try clear hx1511_5); (try clear hx1511_6); (try clear hx1511_7)
        have H := HC18.out
        clear HC18
        by_cases c20 : ((rd_T61 l1 t1495).f4) < ((rd_T61 l0 x6_1).f4)
        ·rw [if_pos c20] at H
         have c20b0 : decide (((rd_T61 l1 t1495).f4) < ((rd_T61 l0 x6_1).f4)) = true := decide_eq_true c20
         clear c20
         (first | rw [c20b0] | rw [c20b1] | (simp only [i64_w, i32_w]; first | rw [c20b0] | rw [c20b1]) | skip)
         replace H := Option.bind_eq_some_iff.mp H
         obtain ⟨⟨t1513, t1514, t1515, t1516, t1517, t1518, t1521, t1522⟩, A210, H⟩ := H
         replace H : (if x5_1.length < 1759218604441 then (spec_Newer.l0 k1 l0 l1 (x5_1 ++ [(⟨t1513, t1514, t1515, t1516, t1517, t1518, t1521, t1522⟩ : S61)]) (wrap64 (x6_1 + 1))) else (none)) = some r := H
         have A21 := Aside0.mk A210
         clear A210
         by_cases c22 : x5_1.length < 1759218604441
         ·rw [if_pos c22] at H
          have LMc22 := Aside0.mk c22
          clear c22
          obtain ⟨y1523, hy1523⟩ : ∃ y_ : List (S61), y_ = (x5_1 ++ [(⟨t1513, t1514, t1515, t1516, t1517, t1518, t1521, t1522⟩ : S61)]) := ⟨_, rfl⟩
          replace H : (spec_Newer.l0 k1 l0 l1 y1523 (wrap64 (x6_1 + 1))) = some r := by first | (rw [hy1523]; with_reducible exact H) | (have H2_ := (Option.bind_some _ _).symm.trans H; rw [hy1523]; with_reducible exact H2_) | (have H2_ := (Option.bind_some _ _).symm.trans H; with_reducible exact H2_) | with_reducible exact H | (rw [hy1523]; exact H) | exact H
          have Ny1523 := Aside0.mk hy1523
          clear hy1523
          have H' := Aside0.mk H
          clear H
          have p1512 : 0 ≤ (x6_1 : Int) := of_decide_eq_true as_q
          have q1512 : x6_1 < (l0.length : Int) := of_decide_eq_true as_q
          obtain ⟨ad1512, A1512_5, c1512_5, e1512, hx1512_0, hx1512_1, hx1512_2, hx1512_3, hx1512_4, hx1512_5, hx1512_6, hx1512_7, hl1512_5, hi1512_5⟩ := at_T61 HR0.out x6_1 p1512 q1512
          obtain rfl : ad1494 = ad1512 := (by injection e1512)
          replace hx1512_0 := (HB.out.cell (World.block_lt_of_cell? w _ hx1512_0)).trans hx1512_0
          replace hx1512_1 := (HB.out.cell (World.block_lt_of_cell? w _ hx1512_1)).trans hx1512_1
          replace hx1512_2 := (HB.out.cell (World.block_lt_of_cell? w _ hx1512_2)).trans hx1512_2
          replace hx1512_3 := (HB.out.cell (World.block_lt_of_cell? w _ hx1512_3)).trans hx1512_3
          replace hx1512_4 := (HB.out.cell (World.block_lt_of_cell? w _ hx1512_4)).trans hx1512_4
          replace hx1512_5 := (HB.out.cell (World.block_lt_of_cell? w _ hx1512_5)).trans hx1512_5
          replace hx1512_6 := (HB.out.cell (World.block_lt_of_cell? w _ hx1512_6)).trans hx1512_6
          replace hx1512_7 := (HB.out.cell (World.block_lt_of_cell? w _ hx1512_7)).trans hx1512_7
          have HR1512_5 := Aside0.mk hi1512_5
          have HC1512_5 := Aside0.mk hl1512_5
          clear hi1512_5 hl1512_5
          replace p1512 := eq_true p1512
          replace q1512 := eq_true q1512
          go_wp2_with (first | (go_at_call 94; (with_reducible refine (spec_l04Copy.calls ((rd_T61 l0 x6_1).f0) ((rd_T61 l0 x6_1).f1) ((rd_T61 l0 x6_1).f2) ((rd_T61 l0 x6_1).f3) ((rd_T61 l0 x6_1).f4) _ _ ((rd_T61 l0 x6_1).f5) ((rd_T61 l0 x6_1).f6) ((rd_T61 l0 x6_1).f7) t1513 t1514 t1515 t1516 t1517 t1518 t1521 t1522 _ ?side1 ?side2 A21.out).mono ?_); (case side1 => exact cs_q (Kd.C_below HR1512_5.out HB.out)); (case side2 => exact HC1512_5.out); rintro e w23 ⟨v1519, rfl, ho0, hb⟩; have hs_v1519 : (v1519 : Value).oneCell' = true := (by first | (obtain ⟨A_, c_, e_⟩ := Kd.R_slice ho0; simp [e_, Value.oneCell']) | (obtain ⟨A_, c_, e_⟩ := Kd.S_slice ho0; simp [e_, Value.oneCell']) | (obtain ⟨A_, c_, e_⟩ := Kd.N_slice ho0; simp [e_, Value.oneCell']) | (obtain ⟨A_, c_, e_⟩ := Kd.V_slice ho0; simp [e_, Value.oneCell'])); have hst_v1519 := fun (w_ : World) (a_ : Addr) m_ => run_store Try.prog w_ a_ v1519 m_ hs_v1519; replace HO_5 := Aside0.mk (Kd.S_elder' (kS_q HO_5) (Kd.R_base ho0) hb); have HO1520 := Aside0.mk (Kd.R_lower ho0 (below_size (bw_q HB))); replace HB := Aside0.mk (below_step (bw_q HB) hb); (try clear hb); (try clear hb2); (try clear hk); (try clear hi); (try clear ho0); obtain ⟨Ao25, co25, eo25⟩ := Kd.R_slice HO1520.out; subst eo25) | ((with_reducible refine gate_builtin (b := .append) (xs := #[.tmp 36, .tmp 42]) rfl ?_); at_builtin; refine Kd.S_append k61 (w0 := w) w.heap.size rfl (.tmp 36) (.tmp 42) 41 61 (.agg #[(.int .i64 0), (.int .i64 0), (.int .i64 0), (.int .i64 0), (.int .i64 0), (.slice none 0 0), (.int .i64 0), (.bool false)]) 80 rfl Try.underlying41 info61 rfl (by decide) (by omega) u5 x5_1 (⟨t1513, t1514, t1515, t1516, t1517, t1518, t1521, t1522⟩ : S61) [.int .i64 t1513, .int .i64 t1514, .int .i64 t1515, .int .i64 t1516, .int .i64 t1517, .slice Ao25 t1518.length co25, .int .i64 t1521, .bool t1522] (fun _ => True) (fun k_ => some k_ = (.slice Ao25 t1518.length co25 : Value).ownBlock) rfl rfl ?aP (fun k_ hk_ => ((Kd.R_mono (ok' := fun k_ => ((fun _ => True)) k_ ∧ some k_ ≠ (u5 : Value).ownBlock) (Kd.R_apart' (HO1520.out) (Kd.S_typed HO_5.out) (by decide)) (fun k_ hk => ⟨trivial, hk.2⟩))).1 k_ hk_.symm) ?aF ?aO ?aB ?aS ?aL ?_; (case aP => exact k61_mkM _ _ _ (⟨t1513, t1514, t1515, t1516, t1517, t1518, t1521, t1522⟩ : S61) (Kd.R_mono (Kd.R_tight rfl (Kd.R_mono (ok' := fun k_ => ((fun _ => True)) k_ ∧ some k_ ≠ (u5 : Value).ownBlock) (Kd.R_apart' (HO1520.out) (Kd.S_typed HO_5.out) (by decide)) (fun k_ hk => ⟨trivial, hk.2⟩))) (fun _ h_ => h_))); (case aB => exact (bw_q HB)); (case aF => exact (fun _ _ => trivial)); (case aO => exact (by (with_reducible repeat (first | apply Kd.S_alloc | apply Kd.S_drewN | apply Kd.S_drew)); exact Kd.S_mono HO_5.out (fun k_ hk => ⟨trivial, fun e_ => hk.2 e_⟩))); (case aS => exact (below_size (bw_q HB))); (case aL => have := LMc22.out; omega); intro v1524 w24 ho hb hg hat; rw [← Ny1523.out] at ho; replace HB := Aside0.mk (hb); have HO1525 := Aside0.mk (ho); clear HO_5 HO1520; clear ho hb hg hat))
          repeat (go_quiet (first | (go_at_call 94; (with_reducible refine (spec_l04Copy.calls ((rd_T61 l0 x6_1).f0) ((rd_T61 l0 x6_1).f1) ((rd_T61 l0 x6_1).f2) ((rd_T61 l0 x6_1).f3) ((rd_T61 l0 x6_1).f4) _ _ ((rd_T61 l0 x6_1).f5) ((rd_T61 l0 x6_1).f6) ((rd_T61 l0 x6_1).f7) t1513 t1514 t1515 t1516 t1517 t1518 t1521 t1522 _ ?side1 ?side2 A21.out).mono ?_); (case side1 => exact cs_q (Kd.C_below HR1512_5.out HB.out)); (case side2 => exact HC1512_5.out); rintro e w23 ⟨v1519, rfl, ho0, hb⟩; have hs_v1519 : (v1519 : Value).oneCell' = true := (by first | (obtain ⟨A_, c_, e_⟩ := Kd.R_slice ho0; simp [e_, Value.oneCell']) | (obtain ⟨A_, c_, e_⟩ := Kd.S_slice ho0; simp [e_, Value.oneCell']) | (obtain ⟨A_, c_, e_⟩ := Kd.N_slice ho0; simp [e_, Value.oneCell']) | (obtain ⟨A_, c_, e_⟩ := Kd.V_slice ho0; simp [e_, Value.oneCell'])); have hst_v1519 := fun (w_ : World) (a_ : Addr) m_ => run_store Try.prog w_ a_ v1519 m_ hs_v1519; replace HO_5 := Aside0.mk (Kd.S_elder' (kS_q HO_5) (Kd.R_base ho0) hb); have HO1520 := Aside0.mk (Kd.R_lower ho0 (below_size (bw_q HB))); replace HB := Aside0.mk (below_step (bw_q HB) hb); (try clear hb); (try clear hb2); (try clear hk); (try clear hi); (try clear ho0); obtain ⟨Ao25, co25, eo25⟩ := Kd.R_slice HO1520.out; subst eo25) | ((with_reducible refine gate_builtin (b := .append) (xs := #[.tmp 36, .tmp 42]) rfl ?_); at_builtin; refine Kd.S_append k61 (w0 := w) w.heap.size rfl (.tmp 36) (.tmp 42) 41 61 (.agg #[(.int .i64 0), (.int .i64 0), (.int .i64 0), (.int .i64 0), (.int .i64 0), (.slice none 0 0), (.int .i64 0), (.bool false)]) 80 rfl Try.underlying41 info61 rfl (by decide) (by omega) u5 x5_1 (⟨t1513, t1514, t1515, t1516, t1517, t1518, t1521, t1522⟩ : S61) [.int .i64 t1513, .int .i64 t1514, .int .i64 t1515, .int .i64 t1516, .int .i64 t1517, .slice Ao25 t1518.length co25, .int .i64 t1521, .bool t1522] (fun _ => True) (fun k_ => some k_ = (.slice Ao25 t1518.length co25 : Value).ownBlock) rfl rfl ?aP (fun k_ hk_ => ((Kd.R_mono (ok' := fun k_ => ((fun _ => True)) k_ ∧ some k_ ≠ (u5 : Value).ownBlock) (Kd.R_apart' (HO1520.out) (Kd.S_typed HO_5.out) (by decide)) (fun k_ hk => ⟨trivial, hk.2⟩))).1 k_ hk_.symm) ?aF ?aO ?aB ?aS ?aL ?_; (case aP => exact k61_mkM _ _ _ (⟨t1513, t1514, t1515, t1516, t1517, t1518, t1521, t1522⟩ : S61) (Kd.R_mono (Kd.R_tight rfl (Kd.R_mono (ok' := fun k_ => ((fun _ => True)) k_ ∧ some k_ ≠ (u5 : Value).ownBlock) (Kd.R_apart' (HO1520.out) (Kd.S_typed HO_5.out) (by decide)) (fun k_ hk => ⟨trivial, hk.2⟩))) (fun _ h_ => h_))); (case aB => exact (bw_q HB)); (case aF => exact (fun _ _ => trivial)); (case aO => exact (by (with_reducible repeat (first | apply Kd.S_alloc | apply Kd.S_drewN | apply Kd.S_drew)); exact Kd.S_mono HO_5.out (fun k_ hk => ⟨trivial, fun e_ => hk.2 e_⟩))); (case aS => exact (below_size (bw_q HB))); (case aL => have := LMc22.out; omega); intro v1524 w24 ho hb hg hat; rw [← Ny1523.out] at ho; replace HB := Aside0.mk (hb); have HO1525 := Aside0.mk (ho); clear HO_5 HO1520; clear ho hb hg hat)); try go_wp2_with (first | (go_at_call 94; (with_reducible refine (spec_l04Copy.calls ((rd_T61 l0 x6_1).f0) ((rd_T61 l0 x6_1).f1) ((rd_T61 l0 x6_1).f2) ((rd_T61 l0 x6_1).f3) ((rd_T61 l0 x6_1).f4) _ _ ((rd_T61 l0 x6_1).f5) ((rd_T61 l0 x6_1).f6) ((rd_T61 l0 x6_1).f7) t1513 t1514 t1515 t1516 t1517 t1518 t1521 t1522 _ ?side1 ?side2 A21.out).mono ?_); (case side1 => exact cs_q (Kd.C_below HR1512_5.out HB.out)); (case side2 => exact HC1512_5.out); rintro e w23 ⟨v1519, rfl, ho0, hb⟩; have hs_v1519 : (v1519 : Value).oneCell' = true := (by first | (obtain ⟨A_, c_, e_⟩ := Kd.R_slice ho0; simp [e_, Value.oneCell']) | (obtain ⟨A_, c_, e_⟩ := Kd.S_slice ho0; simp [e_, Value.oneCell']) | (obtain ⟨A_, c_, e_⟩ := Kd.N_slice ho0; simp [e_, Value.oneCell']) | (obtain ⟨A_, c_, e_⟩ := Kd.V_slice ho0; simp [e_, Value.oneCell'])); have hst_v1519 := fun (w_ : World) (a_ : Addr) m_ => run_store Try.prog w_ a_ v1519 m_ hs_v1519; replace HO_5 := Aside0.mk (Kd.S_elder' (kS_q HO_5) (Kd.R_base ho0) hb); have HO1520 := Aside0.mk (Kd.R_lower ho0 (below_size (bw_q HB))); replace HB := Aside0.mk (below_step (bw_q HB) hb); (try clear hb); (try clear hb2); (try clear hk); (try clear hi); (try clear ho0); obtain ⟨Ao25, co25, eo25⟩ := Kd.R_slice HO1520.out; subst eo25) | ((with_reducible refine gate_builtin (b := .append) (xs := #[.tmp 36, .tmp 42]) rfl ?_); at_builtin; refine Kd.S_append k61 (w0 := w) w.heap.size rfl (.tmp 36) (.tmp 42) 41 61 (.agg #[(.int .i64 0), (.int .i64 0), (.int .i64 0), (.int .i64 0), (.int .i64 0), (.slice none 0 0), (.int .i64 0), (.bool false)]) 80 rfl Try.underlying41 info61 rfl (by decide) (by omega) u5 x5_1 (⟨t1513, t1514, t1515, t1516, t1517, t1518, t1521, t1522⟩ : S61) [.int .i64 t1513, .int .i64 t1514, .int .i64 t1515, .int .i64 t1516, .int .i64 t1517, .slice Ao25 t1518.length co25, .int .i64 t1521, .bool t1522] (fun _ => True) (fun k_ => some k_ = (.slice Ao25 t1518.length co25 : Value).ownBlock) rfl rfl ?aP (fun k_ hk_ => ((Kd.R_mono (ok' := fun k_ => ((fun _ => True)) k_ ∧ some k_ ≠ (u5 : Value).ownBlock) (Kd.R_apart' (HO1520.out) (Kd.S_typed HO_5.out) (by decide)) (fun k_ hk => ⟨trivial, hk.2⟩))).1 k_ hk_.symm) ?aF ?aO ?aB ?aS ?aL ?_; (case aP => exact k61_mkM _ _ _ (⟨t1513, t1514, t1515, t1516, t1517, t1518, t1521, t1522⟩ : S61) (Kd.R_mono (Kd.R_tight rfl (Kd.R_mono (ok' := fun k_ => ((fun _ => True)) k_ ∧ some k_ ≠ (u5 : Value).ownBlock) (Kd.R_apart' (HO1520.out) (Kd.S_typed HO_5.out) (by decide)) (fun k_ hk => ⟨trivial, hk.2⟩))) (fun _ h_ => h_))); (case aB => exact (bw_q HB)); (case aF => exact (fun _ _ => trivial)); (case aO => exact (by (with_reducible repeat (first | apply Kd.S_alloc | apply Kd.S_drewN | apply Kd.S_drew)); exact Kd.S_mono HO_5.out (fun k_ hk => ⟨trivial, fun e_ => hk.2 e_⟩))); (case aS => exact (below_size (bw_q HB))); (case aL => have := LMc22.out; omega); intro v1524 w24 ho hb hg hat; rw [← Ny1523.out] at ho; replace HB := Aside0.mk (hb); have HO1525 := Aside0.mk (ho); clear HO_5 HO1520; clear ho hb hg hat)))
          go_roundg k1
          case measure => have := HK1.out; omega
          case rel => exact ⟨(y1523), (wrap64 (x6_1 + 1)), (by first | rfl | (simp; done) | (simp [*]; done)), H', ⟨by have := HK1.out; omega⟩, ⟨by (with_reducible repeat (first | apply Kd.S_alloc | apply Kd.S_drewN | apply Kd.S_drew)); exact HO1525.out⟩, ⟨bw_q HB⟩⟩
         ·rw [if_neg c22] at H
          exact absurd H (by simp)
        ·rw [if_neg c20] at H
         have c20b0 : decide (((rd_T61 l1 t1495).f4) < ((rd_T61 l0 x6_1).f4)) = false := decide_eq_false c20
         clear c20
         (first | rw [c20b0] | rw [c20b1] | (simp only [i64_w, i32_w]; first | rw [c20b0] | rw [c20b1]) | skip)
         have H' := Aside0.mk H
         clear H
         go_wp2
         repeat (go_quiet (fail); try go_wp2)
         go_roundg k1
         case measure => have := HK1.out; omega
         case rel => exact ⟨(x5_1), (wrap64 (x6_1 + 1)), (by first | rfl | (simp; done) | (simp [*]; done)), H', ⟨by have := HK1.out; omega⟩, ⟨by (with_reducible repeat (first | apply Kd.S_alloc | apply Kd.S_drewN | apply Kd.S_drew)); exact HO_5.out⟩, ⟨bw_q HB⟩⟩
       ·rw [if_neg c17] at H
        exact absurd H (by simp)
      ·rw [if_neg c16] at H
       exact absurd H (by simp)
    ·rw [if_neg c6] at H
     exact absurd H (by simp)
   ·rw [if_neg c5] at H
    have c5b0 : decide (x6_1 < (l0.length : Int)) = false := decide_eq_false c5
    clear c5
    obtain rfl := Option.some.inj H
    go_wp2
    repeat (go_quiet (fail); try go_wp2)
    go_ret
    exact ⟨_, er_q, by (with_reducible repeat (first | apply Kd.S_alloc | apply Kd.S_drewN | apply Kd.S_drew)); exact HO_5.out, bw_q HB⟩

end Go.Proofs.Ythjmdiggglkeaaa.Q
