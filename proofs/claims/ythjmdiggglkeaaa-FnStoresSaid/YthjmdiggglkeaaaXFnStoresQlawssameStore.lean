import Derived.Test.YthjmdiggglkeaaaXFnStoresQimplnearOk
import Derived.Test.YthjmdiggglkeaaaXFnStoresQlawssame
/- A Go function as a Lean function, and its contract: for every input the Go code comes to what the Lean function tells. -/


namespace Go.Proofs.Ythjmdiggglkeaaa.Q
open Go.RowKit Go.Proofs.YthjmdiggglkeaaaW.PrintWords Go.Proofs.YthjmdiggglkeaaaW.PrintLast Go.Proofs.YthjmdiggglkeaaaW.PrintMore
attribute [local go_sem] max2_int min2_int max_two min_two max_three min_three max_four min_four   -- for this text's walks alone
set_option linter.unusedVariables false
set_option linter.unusedSimpArgs false

/-! ### laws_sameStore: function 53 -/
def laws_sameStore.l0 : Nat → List (S61) → List (S61) → Int → Option (Bool)
 | 0, _, _, _ => none
 | k + 1, x0, x1, x5 => if x5 < (x0.length : Int) then (if 0 ≤ x5 then (if x5 < (x1.length : Int) then ((laws_same.f k ((rd_T61 x0 x5).f0) ((rd_T61 x0 x5).f1) ((rd_T61 x0 x5).f2) ((rd_T61 x0 x5).f3) ((rd_T61 x0 x5).f4) ((rd_T61 x0 x5).f5) ((rd_T61 x0 x5).f6) ((rd_T61 x0 x5).f7) ((rd_T61 x1 x5).f0) ((rd_T61 x1 x5).f1) ((rd_T61 x1 x5).f2) ((rd_T61 x1 x5).f3) ((rd_T61 x1 x5).f4) ((rd_T61 x1 x5).f5) ((rd_T61 x1 x5).f6) ((rd_T61 x1 x5).f7)).bind fun t1324 => (if t1324 = true then (laws_sameStore.l0 k x0 x1 (wrap64 (x5 + 1))) else (some false))) else (none)) else (none)) else (some true)
def laws_sameStore.f (k : Nat) (l0 : List (S61)) (l1 : List (S61)) : Option (Bool) := if (l0.length : Int) = (l1.length : Int) then (laws_sameStore.l0 k l0 l1 0) else (some false)
theorem laws_sameStore.mono_l : ∀ k, (∀ y0 y1 y2, LeO (laws_sameStore.l0 k y0 y1 y2) (laws_sameStore.l0 (k + 1) y0 y1 y2))
 | 0 => fun _ _ _ r h => by simp [laws_sameStore.l0] at h
 | k + 1 => by
  have ih0 := laws_sameStore.mono_l k
  ·intro y0 y1 y2
   unfold laws_sameStore.l0
   repeat' first
   | (with_reducible exact ih0 _ _ _)
   | (with_reducible exact laws_same.mono _ _ _ _ _ _ _ _ _ _ _ _ _ _ _ _ _)
   | (with_reducible exact LeO.refl _)
   | (with_reducible exact LeO.none _)
   | (with_reducible refine LeO.ite ?_ ?_)
   | (with_reducible refine LeO.bind ?_ (fun _ => ?_))
   | exact ih0 _ _ _
   | exact laws_same.mono _ _ _ _ _ _ _ _ _ _ _ _ _ _ _ _ _
   | exact LeO.none _
   | refine LeO.ite ?_ ?_
   | refine LeO.bind ?_ (fun _ => ?_)
theorem laws_sameStore.mono : ∀ a0 a1 k, LeO (laws_sameStore.f k a0 a1) (laws_sameStore.f (k + 1) a0 a1) := by
 intro a0 a1 k
 have ih0 := laws_sameStore.mono_l k
 unfold laws_sameStore.f
 repeat' first
   | (with_reducible exact ih0 _ _ _)
   | (with_reducible exact laws_same.mono _ _ _ _ _ _ _ _ _ _ _ _ _ _ _ _ _)
   | (with_reducible exact LeO.refl _)
   | (with_reducible exact LeO.none _)
   | (with_reducible refine LeO.ite ?_ ?_)
   | (with_reducible refine LeO.bind ?_ (fun _ => ?_))
   | exact ih0 _ _ _
   | exact laws_same.mono _ _ _ _ _ _ _ _ _ _ _ _ _ _ _ _ _
   | exact LeO.none _
   | refine LeO.ite ?_ ?_
   | refine LeO.bind ?_ (fun _ => ?_)
def laws_sameStore.T6 : Bool × List (List Nat × List Nat) := (true, [([], []), ([], []), ([0, 1], [0, 1]), ([2], [2]), ([], []), ([], []), ([4, 5], [4, 5]), ([6], [6]), ([3, 7], [3, 7]), ([8], [8])])
def laws_sameStore.B6 : List Nat := [0, 0, 3, 7, 0, 0, 48, 112, 255, 511]
theorem laws_sameStore.tab6 : rtab .any (opsOf Try.f53 6) = laws_sameStore.T6 := by kernel_rfl
theorem laws_sameStore.bits6 : waitsOk laws_sameStore.T6.2 laws_sameStore.B6 = true := by kernel_rfl
set_option maxHeartbeats 8000000 in
set_option maxRecDepth 100000 in
theorem laws_sameStore.calls (k : Nat) (A0 : Option Addr) (c0 : Nat) (l0 : List (S61)) (A1 : Option Addr) (c1 : Nat) (l1 : List (S61)) (r : Bool) (w : World) (hr0 : Kd.C k61 w A0 l0.length l0) (hc0 : l0.length ≤ c0) (hr1 : Kd.C k61 w A1 l1.length l1) (hc1 : l1.length ≤ c1) (h : laws_sameStore.f k l0 l1 = some r) :
  Calls Try.prog 53 #[.slice A0 l0.length c0, .slice A1 l1.length c1] w fun e w' => e = .returned (.bool r) ∧ Below w.heap.size w w' := by
 have hu61 := Try.underlying61
 have HR0 := Aside0.mk hr0
 have HC0 := Aside0.mk hc0
 clear hr0 hc0
 have HR1 := Aside0.mk hr1
 have HC1 := Aside0.mk hc1
 clear hr1 hc1
 have HB := Aside0.mk (Below.refl w.heap.size w)
 have H : (if (l0.length : Int) = (l1.length : Int) then (laws_sameStore.l0 k l0 l1 0) else (some false)) = some r := h
 clear h
 by_cases c3 : (l0.length : Int) = (l1.length : Int)
 ·rw [if_pos c3] at H
  have c3b0 : ((l0.length : Int) == (l1.length : Int)) = true := beq_iff_eq.mpr c3
  have c3b1 : ((l0.length : Int) != (l1.length : Int)) = false := bne_eq_false_iff_eq.mpr c3
  have c3b2 : (l0.length == l1.length) = true := by first | simpa using c3 | (simp at c3 ⊢; omega)
  clear c3
  have H' := Aside0.mk H
  clear H
  go_enter Try.func53, Try.ntmps53
  go_wp2
  go_loopg [5] k (fun kq v5 w' => ∃ (x5_1 : Int), v5 = .int .i64 x5_1 ∧ Aside0 (laws_sameStore.l0 kq l0 l1 x5_1 = some r) ∧ Aside0 (kq ≤ k) ∧ Aside0 (Below w.heap.size w w'))
  case atStart => exact ⟨(0), (by first | rfl | (simp; done) | (simp [*]; done)), H', ⟨Nat.le_refl _⟩, ⟨bw_q HB⟩⟩
  case round =>
   clear H'
   try clear c1
   try clear p2
   try clear c3
   try clear c3b0
   try clear c3b1
   try clear c3b2
   obtain ⟨x5_1, rfl, HA, HK1, HB⟩ := hrel
   cases gk with
   | zero => exact absurd HA.out (by simp [laws_sameStore.l0])
   | succ k1 =>
    have H := HA.out
    clear HA
    simp only [laws_sameStore.l0] at H
    by_cases c4 : x5_1 < (l0.length : Int)
    ·rw [if_pos c4] at H
     have c4b0 : decide (x5_1 < (l0.length : Int)) = true := decide_eq_true c4
     clear c4
     by_cases c5 : 0 ≤ x5_1
     ·rw [if_pos c5] at H
      have c5b0 : decide (0 ≤ x5_1) = true := decide_eq_true c5
      clear c5
      by_cases c6 : x5_1 < (l1.length : Int)
      ·rw [if_pos c6] at H
       have c6b0 : decide (x5_1 < (l1.length : Int)) = true := decide_eq_true c6
       clear c6
       replace H := Option.bind_eq_some_iff.mp H
       obtain ⟨t1324, A70, H⟩ := H
       replace H : (if t1324 = true then (laws_sameStore.l0 k1 l0 l1 (wrap64 (x5_1 + 1))) else (some false)) = some r := H
       have A7 := Aside0.mk A70
       clear A70
       have HZ25 := Aside0.mk H
       clear H
       try go_wp2
       replace HB := Aside0.mk (below_drew1 HB.out)
       have p1322 : 0 ≤ (x5_1 : Int) := of_decide_eq_true as_q
       have q1322 : x5_1 < (l0.length : Int) := of_decide_eq_true as_q
       obtain ⟨ad1322, A1322_5, c1322_5, e1322, hx1322_0, hx1322_1, hx1322_2, hx1322_3, hx1322_4, hx1322_5, hx1322_6, hx1322_7, hl1322_5, hi1322_5⟩ := at_T61 HR0.out x5_1 p1322 q1322
       have hw1322_7 := hx1322_7
       have hw1322_6 := hx1322_6
       have hw1322_5 := hx1322_5
       have hw1322_4 := hx1322_4
       have hw1322_3 := hx1322_3
       have hw1322_2 := hx1322_2
       have hw1322_1 := hx1322_1
       have hw1322_0 := hx1322_0
       cases e1322
       replace hx1322_0 := (HB.out.cell (World.block_lt_of_cell? w _ hx1322_0)).trans hx1322_0
       replace hx1322_1 := (HB.out.cell (World.block_lt_of_cell? w _ hx1322_1)).trans hx1322_1
       replace hx1322_2 := (HB.out.cell (World.block_lt_of_cell? w _ hx1322_2)).trans hx1322_2
       replace hx1322_3 := (HB.out.cell (World.block_lt_of_cell? w _ hx1322_3)).trans hx1322_3
       replace hx1322_4 := (HB.out.cell (World.block_lt_of_cell? w _ hx1322_4)).trans hx1322_4
       replace hx1322_5 := (HB.out.cell (World.block_lt_of_cell? w _ hx1322_5)).trans hx1322_5
       replace hx1322_6 := (HB.out.cell (World.block_lt_of_cell? w _ hx1322_6)).trans hx1322_6
       replace hx1322_7 := (HB.out.cell (World.block_lt_of_cell? w _ hx1322_7)).trans hx1322_7
       have HR1322_5 := Aside0.mk hi1322_5
       have HC1322_5 := Aside0.mk hl1322_5
       clear hi1322_5 hl1322_5
       replace p1322 := eq_true p1322
       replace q1322 := eq_true q1322
       have p1323 : 0 ≤ (x5_1 : Int) := of_decide_eq_true as_q
       have q1323 : x5_1 < (l1.length : Int) := of_decide_eq_true as_q
       obtain ⟨ad1323, A1323_5, c1323_5, e1323, hx1323_0, hx1323_1, hx1323_2, hx1323_3, hx1323_4, hx1323_5, hx1323_6, hx1323_7, hl1323_5, hi1323_5⟩ := at_T61 HR1.out x5_1 p1323 q1323
       have hw1323_7 := hx1323_7
       have hw1323_6 := hx1323_6
       have hw1323_5 := hx1323_5
       have hw1323_4 := hx1323_4
       have hw1323_3 := hx1323_3
       have hw1323_2 := hx1323_2
       have hw1323_1 := hx1323_1
       have hw1323_0 := hx1323_0
       cases e1323
       replace hx1323_0 := (HB.out.cell (World.block_lt_of_cell? w _ hx1323_0)).trans hx1323_0
       replace hx1323_1 := (HB.out.cell (World.block_lt_of_cell? w _ hx1323_1)).trans hx1323_1
       replace hx1323_2 := (HB.out.cell (World.block_lt_of_cell? w _ hx1323_2)).trans hx1323_2
       replace hx1323_3 := (HB.out.cell (World.block_lt_of_cell? w _ hx1323_3)).trans hx1323_3
       replace hx1323_4 := (HB.out.cell (World.block_lt_of_cell? w _ hx1323_4)).trans hx1323_4
       replace hx1323_5 := (HB.out.cell (World.block_lt_of_cell? w _ hx1323_5)).trans hx1323_5
       replace hx1323_6 := (HB.out.cell (World.block_lt_of_cell? w _ hx1323_6)).trans hx1323_6
       replace hx1323_7 := (HB.out.cell (World.block_lt_of_cell? w _ hx1323_7)).trans hx1323_7
       have HR1323_5 := Aside0.mk hi1323_5
       have HC1323_5 := Aside0.mk hl1323_5
       clear hi1323_5 hl1323_5
       replace p1323 := eq_true p1323
       replace q1323 := eq_true q1323
       refine start_ (n := 10) (S := fun w' => w'.cell? (ad1322.add ((x5_1).toNat * 8)) = some (.int .i64 ((rd_T61 l0 x5_1).f0)) ∧ w'.cell? ⟨(ad1322.add ((x5_1).toNat * 8)).block, (ad1322.add ((x5_1).toNat * 8)).off + 1, none⟩ = some (.int .i64 ((rd_T61 l0 x5_1).f1)) ∧ w'.cell? ⟨(ad1322.add ((x5_1).toNat * 8)).block, (ad1322.add ((x5_1).toNat * 8)).off + 2, none⟩ = some (.int .i64 ((rd_T61 l0 x5_1).f2)) ∧ w'.cell? ⟨(ad1322.add ((x5_1).toNat * 8)).block, (ad1322.add ((x5_1).toNat * 8)).off + 3, none⟩ = some (.int .i64 ((rd_T61 l0 x5_1).f3)) ∧ w'.cell? ⟨(ad1322.add ((x5_1).toNat * 8)).block, (ad1322.add ((x5_1).toNat * 8)).off + 4, none⟩ = some (.int .i64 ((rd_T61 l0 x5_1).f4)) ∧ w'.cell? ⟨(ad1322.add ((x5_1).toNat * 8)).block, (ad1322.add ((x5_1).toNat * 8)).off + 5, none⟩ = some (.slice A1322_5 ((rd_T61 l0 x5_1).f5).length c1322_5) ∧ w'.cell? ⟨(ad1322.add ((x5_1).toNat * 8)).block, (ad1322.add ((x5_1).toNat * 8)).off + 6, none⟩ = some (.int .i64 ((rd_T61 l0 x5_1).f6)) ∧ w'.cell? ⟨(ad1322.add ((x5_1).toNat * 8)).block, (ad1322.add ((x5_1).toNat * 8)).off + 7, none⟩ = some (.bool ((rd_T61 l0 x5_1).f7)) ∧ w'.cell? (ad1323.add ((x5_1).toNat * 8)) = some (.int .i64 ((rd_T61 l1 x5_1).f0)) ∧ w'.cell? ⟨(ad1323.add ((x5_1).toNat * 8)).block, (ad1323.add ((x5_1).toNat * 8)).off + 1, none⟩ = some (.int .i64 ((rd_T61 l1 x5_1).f1)) ∧ w'.cell? ⟨(ad1323.add ((x5_1).toNat * 8)).block, (ad1323.add ((x5_1).toNat * 8)).off + 2, none⟩ = some (.int .i64 ((rd_T61 l1 x5_1).f2)) ∧ w'.cell? ⟨(ad1323.add ((x5_1).toNat * 8)).block, (ad1323.add ((x5_1).toNat * 8)).off + 3, none⟩ = some (.int .i64 ((rd_T61 l1 x5_1).f3)) ∧ w'.cell? ⟨(ad1323.add ((x5_1).toNat * 8)).block, (ad1323.add ((x5_1).toNat * 8)).off + 4, none⟩ = some (.int .i64 ((rd_T61 l1 x5_1).f4)) ∧ w'.cell? ⟨(ad1323.add ((x5_1).toNat * 8)).block, (ad1323.add ((x5_1).toNat * 8)).off + 5, none⟩ = some (.slice A1323_5 ((rd_T61 l1 x5_1).f5).length c1323_5) ∧ w'.cell? ⟨(ad1323.add ((x5_1).toNat * 8)).block, (ad1323.add ((x5_1).toNat * 8)).off + 6, none⟩ = some (.int .i64 ((rd_T61 l1 x5_1).f6)) ∧ w'.cell? ⟨(ad1323.add ((x5_1).toNat * 8)).block, (ad1323.add ((x5_1).toNat * 8)).off + 7, none⟩ = some (.bool ((rd_T61 l1 x5_1).f7))) (ds := []) (bL 10 0) (by kernel_rfl) rfl rfl ⟨((HB.out.cell (World.block_lt_of_cell? w _ hw1322_0)).trans hw1322_0), ((HB.out.cell (World.block_lt_of_cell? w _ hw1322_1)).trans hw1322_1), ((HB.out.cell (World.block_lt_of_cell? w _ hw1322_2)).trans hw1322_2), ((HB.out.cell (World.block_lt_of_cell? w _ hw1322_3)).trans hw1322_3), ((HB.out.cell (World.block_lt_of_cell? w _ hw1322_4)).trans hw1322_4), ((HB.out.cell (World.block_lt_of_cell? w _ hw1322_5)).trans hw1322_5), ((HB.out.cell (World.block_lt_of_cell? w _ hw1322_6)).trans hw1322_6), ((HB.out.cell (World.block_lt_of_cell? w _ hw1322_7)).trans hw1322_7), ((HB.out.cell (World.block_lt_of_cell? w _ hw1323_0)).trans hw1323_0), ((HB.out.cell (World.block_lt_of_cell? w _ hw1323_1)).trans hw1323_1), ((HB.out.cell (World.block_lt_of_cell? w _ hw1323_2)).trans hw1323_2), ((HB.out.cell (World.block_lt_of_cell? w _ hw1323_3)).trans hw1323_3), ((HB.out.cell (World.block_lt_of_cell? w _ hw1323_4)).trans hw1323_4), ((HB.out.cell (World.block_lt_of_cell? w _ hw1323_5)).trans hw1323_5), ((HB.out.cell (World.block_lt_of_cell? w _ hw1323_6)).trans hw1323_6), ((HB.out.cell (World.block_lt_of_cell? w _ hw1323_7)).trans hw1323_7)⟩ (fun hHeld => ?_); refine with_tabW laws_sameStore.tab6 laws_sameStore.bits6 (fun HT_ HW_ => ?_)
       generalize wr.drew = w9 at HB HR1322_5 HR1323_5 hx1322_0 hx1322_1 hx1322_2 hx1322_3 hx1322_4 hx1322_5 hx1322_6 hx1322_7 hx1323_0 hx1323_1 hx1323_2 hx1323_3 hx1323_4 hx1323_5 hx1323_6 hx1323_7 hHeld ⊢
       refine pq_ 0 17 (bL 10 1) HT_.out rfl rfl ?_
       refine pq_ 1 18 (bL 10 3) HT_.out rfl rfl ?_
       refine pq_ 2 19 (bL 10 7) HT_.out rfl rfl ?_
       refine pq_ 4 21 (bL 10 23) HT_.out rfl rfl ?_
       refine pq_ 5 22 (bL 10 55) HT_.out rfl rfl ?_
       refine pq_ 6 23 (bL 10 119) HT_.out rfl rfl ?_
       refine take_ (i := 3) (N := some 20) (v := ?_) (a' := ?_) (bL 10 127) rfl rfl (take_ofW HT_.out HW_.out (by kernel_rfl)) (fun _ _ _ h => h) (Or.inl ⟨by rfl, ?_⟩) hHeld ?_ ?_; rotate_left; (rintro w' ⟨s0, s1, s2, s3, s4, s5, s6, s7, s8, s9, s10, s11, s12, s13, s14, s15⟩; go_simp; with_reducible rfl); rotate_left; (exact put_q)
       refine take_ (i := 7) (N := some 24) (v := ?_) (a' := ?_) (bL 10 255) rfl rfl (take_ofW HT_.out HW_.out (by kernel_rfl)) (fun _ _ _ h => h) (Or.inl ⟨by rfl, ?_⟩) hHeld ?_ ?_; rotate_left; (rintro w' ⟨s0, s1, s2, s3, s4, s5, s6, s7, s8, s9, s10, s11, s12, s13, s14, s15⟩; go_simp; with_reducible rfl); rotate_left; (exact put_q)
       refine one_ (i := 8) (N := some 25) (bL 10 511) rfl rfl (one_of HT_.out (by kernel_rfl)) (by decide) (fun K hK => ?_)
       refine goes_ Try.func51 (by kernel_rfl) rfl #[.agg #[.int .i64 ((rd_T61 l0 x5_1).f0), .int .i64 ((rd_T61 l0 x5_1).f1), .int .i64 ((rd_T61 l0 x5_1).f2), .int .i64 ((rd_T61 l0 x5_1).f3), .int .i64 ((rd_T61 l0 x5_1).f4), .slice A1322_5 ((rd_T61 l0 x5_1).f5).length c1322_5, .int .i64 ((rd_T61 l0 x5_1).f6), .bool ((rd_T61 l0 x5_1).f7)], .agg #[.int .i64 ((rd_T61 l1 x5_1).f0), .int .i64 ((rd_T61 l1 x5_1).f1), .int .i64 ((rd_T61 l1 x5_1).f2), .int .i64 ((rd_T61 l1 x5_1).f3), .int .i64 ((rd_T61 l1 x5_1).f4), .slice A1323_5 ((rd_T61 l1 x5_1).f5).length c1323_5, .int .i64 ((rd_T61 l1 x5_1).f6), .bool ((rd_T61 l1 x5_1).f7)]] (by rfl) rfl rfl mp_q ?_
       with_reducible refine (laws_same.calls k1 ((rd_T61 l0 x5_1).f0) ((rd_T61 l0 x5_1).f1) ((rd_T61 l0 x5_1).f2) ((rd_T61 l0 x5_1).f3) ((rd_T61 l0 x5_1).f4) _ _ ((rd_T61 l0 x5_1).f5) ((rd_T61 l0 x5_1).f6) ((rd_T61 l0 x5_1).f7) ((rd_T61 l1 x5_1).f0) ((rd_T61 l1 x5_1).f1) ((rd_T61 l1 x5_1).f2) ((rd_T61 l1 x5_1).f3) ((rd_T61 l1 x5_1).f4) _ _ ((rd_T61 l1 x5_1).f5) ((rd_T61 l1 x5_1).f6) ((rd_T61 l1 x5_1).f7) t1324 _ ?side1 ?side2 ?side3 ?side4 A7.out).mono ?_
       (case side1 => exact cs_q (Kd.C_below HR1322_5.out HB.out))
       (case side2 => exact HC1322_5.out)
       (case side3 => exact cs_q (Kd.C_below HR1323_5.out HB.out))
       (case side4 => exact HC1323_5.out)
       rintro e w10 ⟨rfl, hb⟩
       refine ⟨_, rfl, ?_⟩
       replace HB := Aside0.mk (below_step (bw_q HB) hb)
       (try clear hb)
       (try clear hb2)
       (try clear hk)
       (try clear hi)
       refine hK.out _ _ ⟨((HB.out.cell (World.block_lt_of_cell? w _ hw1322_0)).trans hw1322_0), ((HB.out.cell (World.block_lt_of_cell? w _ hw1322_1)).trans hw1322_1), ((HB.out.cell (World.block_lt_of_cell? w _ hw1322_2)).trans hw1322_2), ((HB.out.cell (World.block_lt_of_cell? w _ hw1322_3)).trans hw1322_3), ((HB.out.cell (World.block_lt_of_cell? w _ hw1322_4)).trans hw1322_4), ((HB.out.cell (World.block_lt_of_cell? w _ hw1322_5)).trans hw1322_5), ((HB.out.cell (World.block_lt_of_cell? w _ hw1322_6)).trans hw1322_6), ((HB.out.cell (World.block_lt_of_cell? w _ hw1322_7)).trans hw1322_7), ((HB.out.cell (World.block_lt_of_cell? w _ hw1323_0)).trans hw1323_0), ((HB.out.cell (World.block_lt_of_cell? w _ hw1323_1)).trans hw1323_1), ((HB.out.cell (World.block_lt_of_cell? w _ hw1323_2)).trans hw1323_2), ((HB.out.cell (World.block_lt_of_cell? w _ hw1323_3)).trans hw1323_3), ((HB.out.cell (World.block_lt_of_cell? w _ hw1323_4)).trans hw1323_4), ((HB.out.cell (World.block_lt_of_cell? w _ hw1323_5)).trans hw1323_5), ((HB.out.cell (World.block_lt_of_cell? w _ hw1323_6)).trans hw1323_6), ((HB.out.cell (World.block_lt_of_cell? w _ hw1323_7)).trans hw1323_7)⟩ (fun hHeld => ?_)
       clear hK K
       refine norm_ (a' := ?_) ?_ ?_; rotate_left; (show Act.put _ (some 25) _ = _; simp only [Act.put, List.setIfInBounds_toArray, List.set_cons_zero, List.set_cons_succ, i64_w, i32_w]; rfl)
       refine pq_ 9 26 (bL 10 1023) HT_.out rfl rfl ?_
       have H := HZ25.out
       clear HZ25
       by_cases c8 : t1324 = true
       ·subst c8
        have H1 : (laws_sameStore.l0 k1 l0 l1 (wrap64 (x5_1 + 1))) = some r := by rw [if_pos rfl] at H; exact H
        clear H
        have H := H1
        clear H1
        have H' := Aside0.mk H
        clear H
        refine done_ (done_of HT_.out (by kernel_rfl)) ?_
        try go_wp2
        go_roundg k1
        case measure => have := HK1.out; omega
        case rel => exact ⟨(wrap64 (x5_1 + 1)), (by first | rfl | (simp; done) | (simp [*]; done)), H', ⟨by have := HK1.out; omega⟩, ⟨bw_q HB⟩⟩
       ·replace c8 := Bool.eq_false_iff.mpr c8
        subst c8
        have H1 : (some false) = some r := by rw [if_neg (show ¬ (false = true) by decide)] at H; exact H
        clear H
        have H := H1
        clear H1
        obtain rfl := Option.some.inj H
        refine done_ (done_of HT_.out (by kernel_rfl)) ?_
        try go_wp2
        go_ret
        exact ⟨er_q, bw_q HB⟩
      ·rw [if_neg c6] at H
       exact absurd H (by simp)
     ·rw [if_neg c5] at H
      exact absurd H (by simp)
    ·rw [if_neg c4] at H
     have c4b0 : decide (x5_1 < (l0.length : Int)) = false := decide_eq_false c4
     clear c4
     obtain rfl := Option.some.inj H
     go_wp2
     go_ret
     exact ⟨er_q, bw_q HB⟩
 ·rw [if_neg c3] at H
  have c3b0 : ((l0.length : Int) == (l1.length : Int)) = false := beq_eq_false_iff_ne.mpr c3
  have c3b1 : ((l0.length : Int) != (l1.length : Int)) = true := bne_iff_ne.mpr c3
  have c3b2 : (l0.length == l1.length) = false := by first | simpa using c3 | (simp at c3 ⊢; omega)
  obtain rfl := Option.some.inj H
  go_enter Try.func53, Try.ntmps53
  go_wp2
  go_ret
  exact ⟨er_q, bw_q HB⟩

end Go.Proofs.Ythjmdiggglkeaaa.Q
