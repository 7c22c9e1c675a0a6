import Derived.Test.YtnecbkognpponaaXPacketTextQlawstoNearS
import Derived.Test.YtnecbkognpponaaXPacketTextQlawseqRecord
/- A Go function as a Lean function, and its contract: for every input the Go code comes to what the Lean function tells. -/


namespace Go.Proofs.Ytnecbkognpponaa.Q
open Go.RowKit Go.Proofs.YtnecbkognpponaaW.PrintWords Go.Proofs.YtnecbkognpponaaW.PrintLast Go.Proofs.YtnecbkognpponaaW.PrintMore
attribute [local go_sem] max2_int min2_int max_two min_two max_three min_three max_four min_four   -- for this text's walks alone
set_option linter.unusedVariables false
set_option linter.unusedSimpArgs false

/-! ### laws_eqRecordS: function 57 -/
def laws_eqRecordS.l0 : Nat → List (S24) → List (S24) → Int → Option (Bool)
 | 0, _, _, _ => none
 | k + 1, x0, x1, x5 => if x5 < (x0.length : Int) then (if 0 ≤ x5 then (if x5 < (x1.length : Int) then ((laws_eqRecord.f k ((rd_T24 x0 x5).f0) ((rd_T24 x0 x5).f1) ((rd_T24 x0 x5).f2) ((rd_T24 x0 x5).f3) ((rd_T24 x0 x5).f4) ((rd_T24 x0 x5).f5) ((rd_T24 x0 x5).f6) ((rd_T24 x0 x5).f7) ((rd_T24 x1 x5).f0) ((rd_T24 x1 x5).f1) ((rd_T24 x1 x5).f2) ((rd_T24 x1 x5).f3) ((rd_T24 x1 x5).f4) ((rd_T24 x1 x5).f5) ((rd_T24 x1 x5).f6) ((rd_T24 x1 x5).f7)).bind fun t165 => (if t165 = true then (laws_eqRecordS.l0 k x0 x1 (wrap64 (x5 + 1))) else (some false))) else (none)) else (none)) else (some true)
def laws_eqRecordS.f (k : Nat) (l0 : List (S24)) (l1 : List (S24)) : Option (Bool) := if (l0.length : Int) = (l1.length : Int) then (laws_eqRecordS.l0 k l0 l1 0) else (some false)
theorem laws_eqRecordS.mono_l : ∀ k, (∀ y0 y1 y2, LeO (laws_eqRecordS.l0 k y0 y1 y2) (laws_eqRecordS.l0 (k + 1) y0 y1 y2))
 | 0 => fun _ _ _ r h => by simp [laws_eqRecordS.l0] at h
 | k + 1 => by
  have ih0 := laws_eqRecordS.mono_l k
  ·intro y0 y1 y2
   unfold laws_eqRecordS.l0
   repeat' first
   | (with_reducible exact ih0 _ _ _)
   | (with_reducible exact laws_eqRecord.mono _ _ _ _ _ _ _ _ _ _ _ _ _ _ _ _ _)
   | (with_reducible exact LeO.refl _)
   | (with_reducible exact LeO.none _)
   | (with_reducible refine LeO.ite ?_ ?_)
   | (with_reducible refine LeO.bind ?_ (fun _ => ?_))
   | exact ih0 _ _ _
   | exact laws_eqRecord.mono _ _ _ _ _ _ _ _ _ _ _ _ _ _ _ _ _
   | exact LeO.none _
   | refine LeO.ite ?_ ?_
   | refine LeO.bind ?_ (fun _ => ?_)
theorem laws_eqRecordS.mono : ∀ a0 a1 k, LeO (laws_eqRecordS.f k a0 a1) (laws_eqRecordS.f (k + 1) a0 a1) := by
 intro a0 a1 k
 have ih0 := laws_eqRecordS.mono_l k
 unfold laws_eqRecordS.f
 repeat' first
   | (with_reducible exact ih0 _ _ _)
   | (with_reducible exact laws_eqRecord.mono _ _ _ _ _ _ _ _ _ _ _ _ _ _ _ _ _)
   | (with_reducible exact LeO.refl _)
   | (with_reducible exact LeO.none _)
   | (with_reducible refine LeO.ite ?_ ?_)
   | (with_reducible refine LeO.bind ?_ (fun _ => ?_))
   | exact ih0 _ _ _
   | exact laws_eqRecord.mono _ _ _ _ _ _ _ _ _ _ _ _ _ _ _ _ _
   | exact LeO.none _
   | refine LeO.ite ?_ ?_
   | refine LeO.bind ?_ (fun _ => ?_)
def laws_eqRecordS.T6 : Bool × List (List Nat × List Nat) := (true, [([], []), ([], []), ([0, 1], [0, 1]), ([2], [2]), ([], []), ([], []), ([4, 5], [4, 5]), ([6], [6]), ([3, 7], [3, 7]), ([8], [8])])
def laws_eqRecordS.B6 : List Nat := [0, 0, 3, 7, 0, 0, 48, 112, 255, 511]
theorem laws_eqRecordS.tab6 : rtab .any (opsOf Try.f57 6) = laws_eqRecordS.T6 := by kernel_rfl
theorem laws_eqRecordS.bits6 : waitsOk laws_eqRecordS.T6.2 laws_eqRecordS.B6 = true := by kernel_rfl
set_option maxHeartbeats 8000000 in
set_option maxRecDepth 100000 in
theorem laws_eqRecordS.calls (k : Nat) (A0 : Option Addr) (c0 : Nat) (l0 : List (S24)) (A1 : Option Addr) (c1 : Nat) (l1 : List (S24)) (r : Bool) (w : World) (hr0 : Kd.C k24 w A0 l0.length l0) (hc0 : l0.length ≤ c0) (hr1 : Kd.C k24 w A1 l1.length l1) (hc1 : l1.length ≤ c1) (h : laws_eqRecordS.f k l0 l1 = some r) :
  Calls Try.prog 57 #[.slice A0 l0.length c0, .slice A1 l1.length c1] w fun e w' => e = .returned (.bool r) ∧ Below w.heap.size w w' := by
 have hu24 := Try.underlying24; have HR0 := Aside0.mk hr0; have HC0 := Aside0.mk hc0; clear hr0 hc0; have HR1 := Aside0.mk hr1; have HC1 := Aside0.mk hc1; clear hr1 hc1; have HB := Aside0.mk (Below.refl w.heap.size w)
 have H : (if (l0.length : Int) = (l1.length : Int) then (laws_eqRecordS.l0 k l0 l1 0) else (some false)) = some r := h
 clear h
 by_cases c3 : (l0.length : Int) = (l1.length : Int)
 ·rw [if_pos c3] at H
  have c3b0 : ((l0.length : Int) == (l1.length : Int)) = true := beq_iff_eq.mpr c3
  have c3b1 : ((l0.length : Int) != (l1.length : Int)) = false := bne_eq_false_iff_eq.mpr c3
  have c3b2 : (l0.length == l1.length) = true := by first | simpa using c3 | (simp at c3 ⊢; omega)
  clear c3; have H' := Aside0.mk H; clear H
  go_enter Try.func57, Try.ntmps57
  go_wp2
  go_loopg [5] k (fun kq v5 w' => ∃ (x5_1 : Int), v5 = .int .i64 x5_1 ∧ Aside0 (laws_eqRecordS.l0 kq l0 l1 x5_1 = some r) ∧ Aside0 (kq ≤ k) ∧ Aside0 (Below w.heap.size w w'))
  case atStart => exact ⟨(0), (by first | rfl | (simp; done) | (simp [*]; done)), H', ⟨Nat.le_refl _⟩, ⟨bw_q HB⟩⟩
  case round =>
   clear H'; (try clear c1); (try clear p2); (try clear c3); (try clear c3b0); (try clear c3b1); (try clear c3b2); obtain ⟨x5_1, rfl, HA, HK1, HB⟩ := hrel
   cases gk with
   | zero => exact absurd HA.out (by simp [laws_eqRecordS.l0])
   | succ k1 =>
    have H := HA.out; clear HA
    simp only [laws_eqRecordS.l0] at H
    by_cases c4 : x5_1 < (l0.length : Int)
    ·rw [if_pos c4] at H
     have c4b0 : decide (x5_1 < (l0.length : Int)) = true := decide_eq_true c4
     clear c4
     by_cases c5 : 0 ≤ x5_1
     ·rw [if_pos c5] at H
      have c5b0 : decide (0 ≤ x5_1) = true := decide_eq_true c5
      clear c5
      by_cases c6 : x5_1 < (l1.length : Int)
      ·rw [if_pos c6] at H
       have c6b0 : decide (x5_1 < (l1.length : Int)) = true := decide_eq_true c6
       clear c6; replace H := Option.bind_eq_some_iff.mp H; obtain ⟨t165, A70, H⟩ := H
       replace H : (if t165 = true then (laws_eqRecordS.l0 k1 l0 l1 (wrap64 (x5_1 + 1))) else (some false)) = some r := H
       have A7 := Aside0.mk A70; clear A70; have HZ10 := Aside0.mk H; clear H
       try go_wp2
       replace HB := Aside0.mk (below_drew1 HB.out)
       have p163 : 0 ≤ (x5_1 : Int) := of_decide_eq_true as_q
       have q163 : x5_1 < (l0.length : Int) := of_decide_eq_true as_q
       obtain ⟨ad163, A163_5, c163_5, e163, hx163_0, hx163_1, hx163_2, hx163_3, hx163_4, hx163_5, hx163_6, hx163_7, hl163_5, hi163_5⟩ := at_T24 HR0.out x5_1 p163 q163; have hw163_7 := hx163_7; have hw163_6 := hx163_6; have hw163_5 := hx163_5; have hw163_4 := hx163_4; have hw163_3 := hx163_3; have hw163_2 := hx163_2; have hw163_1 := hx163_1; have hw163_0 := hx163_0
       cases e163
       replace hx163_0 := (HB.out.cell (World.block_lt_of_cell? w _ hx163_0)).trans hx163_0
       replace hx163_1 := (HB.out.cell (World.block_lt_of_cell? w _ hx163_1)).trans hx163_1
       replace hx163_2 := (HB.out.cell (World.block_lt_of_cell? w _ hx163_2)).trans hx163_2
       replace hx163_3 := (HB.out.cell (World.block_lt_of_cell? w _ hx163_3)).trans hx163_3
       replace hx163_4 := (HB.out.cell (World.block_lt_of_cell? w _ hx163_4)).trans hx163_4
       replace hx163_5 := (HB.out.cell (World.block_lt_of_cell? w _ hx163_5)).trans hx163_5
       replace hx163_6 := (HB.out.cell (World.block_lt_of_cell? w _ hx163_6)).trans hx163_6
       replace hx163_7 := (HB.out.cell (World.block_lt_of_cell? w _ hx163_7)).trans hx163_7
       have HR163_5 := Aside0.mk hi163_5; have HC163_5 := Aside0.mk hl163_5; clear hi163_5 hl163_5; replace p163 := eq_true p163; replace q163 := eq_true q163
       have p164 : 0 ≤ (x5_1 : Int) := of_decide_eq_true as_q
       have q164 : x5_1 < (l1.length : Int) := of_decide_eq_true as_q
       obtain ⟨ad164, A164_5, c164_5, e164, hx164_0, hx164_1, hx164_2, hx164_3, hx164_4, hx164_5, hx164_6, hx164_7, hl164_5, hi164_5⟩ := at_T24 HR1.out x5_1 p164 q164; have hw164_7 := hx164_7; have hw164_6 := hx164_6; have hw164_5 := hx164_5; have hw164_4 := hx164_4; have hw164_3 := hx164_3; have hw164_2 := hx164_2; have hw164_1 := hx164_1; have hw164_0 := hx164_0
       cases e164
       replace hx164_0 := (HB.out.cell (World.block_lt_of_cell? w _ hx164_0)).trans hx164_0
       replace hx164_1 := (HB.out.cell (World.block_lt_of_cell? w _ hx164_1)).trans hx164_1
       replace hx164_2 := (HB.out.cell (World.block_lt_of_cell? w _ hx164_2)).trans hx164_2
       replace hx164_3 := (HB.out.cell (World.block_lt_of_cell? w _ hx164_3)).trans hx164_3
       replace hx164_4 := (HB.out.cell (World.block_lt_of_cell? w _ hx164_4)).trans hx164_4
       replace hx164_5 := (HB.out.cell (World.block_lt_of_cell? w _ hx164_5)).trans hx164_5
       replace hx164_6 := (HB.out.cell (World.block_lt_of_cell? w _ hx164_6)).trans hx164_6
       replace hx164_7 := (HB.out.cell (World.block_lt_of_cell? w _ hx164_7)).trans hx164_7
       have HR164_5 := Aside0.mk hi164_5; have HC164_5 := Aside0.mk hl164_5; clear hi164_5 hl164_5; replace p164 := eq_true p164; replace q164 := eq_true q164
       refine start_ (n := 10) (S := fun w' => w'.cell? (ad163.add ((x5_1).toNat * 8)) = some (.int .i64 ((rd_T24 l0 x5_1).f0)) ∧ w'.cell? ⟨(ad163.add ((x5_1).toNat * 8)).block, (ad163.add ((x5_1).toNat * 8)).off + 1, none⟩ = some (.int .i64 ((rd_T24 l0 x5_1).f1)) ∧ w'.cell? ⟨(ad163.add ((x5_1).toNat * 8)).block, (ad163.add ((x5_1).toNat * 8)).off + 2, none⟩ = some (.int .i64 ((rd_T24 l0 x5_1).f2)) ∧ w'.cell? ⟨(ad163.add ((x5_1).toNat * 8)).block, (ad163.add ((x5_1).toNat * 8)).off + 3, none⟩ = some (.int .i64 ((rd_T24 l0 x5_1).f3)) ∧ w'.cell? ⟨(ad163.add ((x5_1).toNat * 8)).block, (ad163.add ((x5_1).toNat * 8)).off + 4, none⟩ = some (.int .i64 ((rd_T24 l0 x5_1).f4)) ∧ w'.cell? ⟨(ad163.add ((x5_1).toNat * 8)).block, (ad163.add ((x5_1).toNat * 8)).off + 5, none⟩ = some (.slice A163_5 ((rd_T24 l0 x5_1).f5).length c163_5) ∧ w'.cell? ⟨(ad163.add ((x5_1).toNat * 8)).block, (ad163.add ((x5_1).toNat * 8)).off + 6, none⟩ = some (.int .i64 ((rd_T24 l0 x5_1).f6)) ∧ w'.cell? ⟨(ad163.add ((x5_1).toNat * 8)).block, (ad163.add ((x5_1).toNat * 8)).off + 7, none⟩ = some (.bool ((rd_T24 l0 x5_1).f7)) ∧ w'.cell? (ad164.add ((x5_1).toNat * 8)) = some (.int .i64 ((rd_T24 l1 x5_1).f0)) ∧ w'.cell? ⟨(ad164.add ((x5_1).toNat * 8)).block, (ad164.add ((x5_1).toNat * 8)).off + 1, none⟩ = some (.int .i64 ((rd_T24 l1 x5_1).f1)) ∧ w'.cell? ⟨(ad164.add ((x5_1).toNat * 8)).block, (ad164.add ((x5_1).toNat * 8)).off + 2, none⟩ = some (.int .i64 ((rd_T24 l1 x5_1).f2)) ∧ w'.cell? ⟨(ad164.add ((x5_1).toNat * 8)).block, (ad164.add ((x5_1).toNat * 8)).off + 3, none⟩ = some (.int .i64 ((rd_T24 l1 x5_1).f3)) ∧ w'.cell? ⟨(ad164.add ((x5_1).toNat * 8)).block, (ad164.add ((x5_1).toNat * 8)).off + 4, none⟩ = some (.int .i64 ((rd_T24 l1 x5_1).f4)) ∧ w'.cell? ⟨(ad164.add ((x5_1).toNat * 8)).block, (ad164.add ((x5_1).toNat * 8)).off + 5, none⟩ = some (.slice A164_5 ((rd_T24 l1 x5_1).f5).length c164_5) ∧ w'.cell? ⟨(ad164.add ((x5_1).toNat * 8)).block, (ad164.add ((x5_1).toNat * 8)).off + 6, none⟩ = some (.int .i64 ((rd_T24 l1 x5_1).f6)) ∧ w'.cell? ⟨(ad164.add ((x5_1).toNat * 8)).block, (ad164.add ((x5_1).toNat * 8)).off + 7, none⟩ = some (.bool ((rd_T24 l1 x5_1).f7))) (ds := []) (bL 10 0) (by kernel_rfl) rfl rfl ⟨((HB.out.cell (World.block_lt_of_cell? w _ hw163_0)).trans hw163_0), ((HB.out.cell (World.block_lt_of_cell? w _ hw163_1)).trans hw163_1), ((HB.out.cell (World.block_lt_of_cell? w _ hw163_2)).trans hw163_2), ((HB.out.cell (World.block_lt_of_cell? w _ hw163_3)).trans hw163_3), ((HB.out.cell (World.block_lt_of_cell? w _ hw163_4)).trans hw163_4), ((HB.out.cell (World.block_lt_of_cell? w _ hw163_5)).trans hw163_5), ((HB.out.cell (World.block_lt_of_cell? w _ hw163_6)).trans hw163_6), ((HB.out.cell (World.block_lt_of_cell? w _ hw163_7)).trans hw163_7), ((HB.out.cell (World.block_lt_of_cell? w _ hw164_0)).trans hw164_0), ((HB.out.cell (World.block_lt_of_cell? w _ hw164_1)).trans hw164_1), ((HB.out.cell (World.block_lt_of_cell? w _ hw164_2)).trans hw164_2), ((HB.out.cell (World.block_lt_of_cell? w _ hw164_3)).trans hw164_3), ((HB.out.cell (World.block_lt_of_cell? w _ hw164_4)).trans hw164_4), ((HB.out.cell (World.block_lt_of_cell? w _ hw164_5)).trans hw164_5), ((HB.out.cell (World.block_lt_of_cell? w _ hw164_6)).trans hw164_6), ((HB.out.cell (World.block_lt_of_cell? w _ hw164_7)).trans hw164_7)⟩ (fun hHeld => ?_); refine with_tabW laws_eqRecordS.tab6 laws_eqRecordS.bits6 (fun HT_ HW_ => ?_)
       generalize wr.drew = w9 at HB HR163_5 HR164_5 hx163_0 hx163_1 hx163_2 hx163_3 hx163_4 hx163_5 hx163_6 hx163_7 hx164_0 hx164_1 hx164_2 hx164_3 hx164_4 hx164_5 hx164_6 hx164_7 hHeld ⊢
       refine pq_ 0 17 (bL 10 1) HT_.out rfl rfl ?_
       refine pq_ 1 18 (bL 10 3) HT_.out rfl rfl ?_
       refine pq_ 2 19 (bL 10 7) HT_.out rfl rfl ?_
       refine pq_ 4 21 (bL 10 23) HT_.out rfl rfl ?_
       refine pq_ 5 22 (bL 10 55) HT_.out rfl rfl ?_
       refine pq_ 6 23 (bL 10 119) HT_.out rfl rfl ?_
       refine take_ (i := 3) (N := some 20) (v := ?_) (a' := ?_) (bL 10 127) rfl rfl (take_ofW HT_.out HW_.out (by kernel_rfl)) (fun _ _ _ h => h) (Or.inl ⟨by rfl, ?_⟩) hHeld ?_ ?_; rotate_left; (rintro w' ⟨s0, s1, s2, s3, s4, s5, s6, s7, s8, s9, s10, s11, s12, s13, s14, s15⟩; go_simp; with_reducible rfl); rotate_left; (exact put_q)
       refine take_ (i := 7) (N := some 24) (v := ?_) (a' := ?_) (bL 10 255) rfl rfl (take_ofW HT_.out HW_.out (by kernel_rfl)) (fun _ _ _ h => h) (Or.inl ⟨by rfl, ?_⟩) hHeld ?_ ?_; rotate_left; (rintro w' ⟨s0, s1, s2, s3, s4, s5, s6, s7, s8, s9, s10, s11, s12, s13, s14, s15⟩; go_simp; with_reducible rfl); rotate_left; (exact put_q)
       refine one_ (i := 8) (N := some 25) (bL 10 511) rfl rfl (one_of HT_.out (by kernel_rfl)) (by decide) (fun K hK => ?_)
       refine goes_ Try.func11 (by kernel_rfl) rfl #[.agg #[.int .i64 ((rd_T24 l0 x5_1).f0), .int .i64 ((rd_T24 l0 x5_1).f1), .int .i64 ((rd_T24 l0 x5_1).f2), .int .i64 ((rd_T24 l0 x5_1).f3), .int .i64 ((rd_T24 l0 x5_1).f4), .slice A163_5 ((rd_T24 l0 x5_1).f5).length c163_5, .int .i64 ((rd_T24 l0 x5_1).f6), .bool ((rd_T24 l0 x5_1).f7)], .agg #[.int .i64 ((rd_T24 l1 x5_1).f0), .int .i64 ((rd_T24 l1 x5_1).f1), .int .i64 ((rd_T24 l1 x5_1).f2), .int .i64 ((rd_T24 l1 x5_1).f3), .int .i64 ((rd_T24 l1 x5_1).f4), .slice A164_5 ((rd_T24 l1 x5_1).f5).length c164_5, .int .i64 ((rd_T24 l1 x5_1).f6), .bool ((rd_T24 l1 x5_1).f7)]] (by rfl) rfl rfl mp_q ?_
       with_reducible refine (laws_eqRecord.calls k1 ((rd_T24 l0 x5_1).f0) ((rd_T24 l0 x5_1).f1) ((rd_T24 l0 x5_1).f2) ((rd_T24 l0 x5_1).f3) ((rd_T24 l0 x5_1).f4) _ _ ((rd_T24 l0 x5_1).f5) ((rd_T24 l0 x5_1).f6) ((rd_T24 l0 x5_1).f7) ((rd_T24 l1 x5_1).f0) ((rd_T24 l1 x5_1).f1) ((rd_T24 l1 x5_1).f2) ((rd_T24 l1 x5_1).f3) ((rd_T24 l1 x5_1).f4) _ _ ((rd_T24 l1 x5_1).f5) ((rd_T24 l1 x5_1).f6) ((rd_T24 l1 x5_1).f7) t165 _ ?side1 ?side2 ?side3 ?side4 A7.out).mono ?_
       (case side1 => exact cs_q (Kd.C_below HR163_5.out HB.out))
       (case side2 => exact HC163_5.out)
       (case side3 => exact cs_q (Kd.C_below HR164_5.out HB.out))
       (case side4 => exact HC164_5.out)
       rintro e w10 ⟨rfl, hb⟩
       refine ⟨_, rfl, ?_⟩
       replace HB := Aside0.mk (below_step (bw_q HB) hb); (try clear hb); (try clear hb2); (try clear hk); (try clear hi)
       refine hK.out _ _ ⟨((HB.out.cell (World.block_lt_of_cell? w _ hw163_0)).trans hw163_0), ((HB.out.cell (World.block_lt_of_cell? w _ hw163_1)).trans hw163_1), ((HB.out.cell (World.block_lt_of_cell? w _ hw163_2)).trans hw163_2), ((HB.out.cell (World.block_lt_of_cell? w _ hw163_3)).trans hw163_3), ((HB.out.cell (World.block_lt_of_cell? w _ hw163_4)).trans hw163_4), ((HB.out.cell (World.block_lt_of_cell? w _ hw163_5)).trans hw163_5), ((HB.out.cell (World.block_lt_of_cell? w _ hw163_6)).trans hw163_6), ((HB.out.cell (World.block_lt_of_cell? w _ hw163_7)).trans hw163_7), ((HB.out.cell (World.block_lt_of_cell? w _ hw164_0)).trans hw164_0), ((HB.out.cell (World.block_lt_of_cell? w _ hw164_1)).trans hw164_1), ((HB.out.cell (World.block_lt_of_cell? w _ hw164_2)).trans hw164_2), ((HB.out.cell (World.block_lt_of_cell? w _ hw164_3)).trans hw164_3), ((HB.out.cell (World.block_lt_of_cell? w _ hw164_4)).trans hw164_4), ((HB.out.cell (World.block_lt_of_cell? w _ hw164_5)).trans hw164_5), ((HB.out.cell (World.block_lt_of_cell? w _ hw164_6)).trans hw164_6), ((HB.out.cell (World.block_lt_of_cell? w _ hw164_7)).trans hw164_7)⟩ (fun hHeld => ?_)
       clear hK K
       refine norm_ (a' := ?_) ?_ ?_; rotate_left; (show Act.put _ (some 25) _ = _; simp only [Act.put, List.setIfInBounds_toArray, List.set_cons_zero, List.set_cons_succ, i64_w, i32_w]; rfl)
       refine pq_ 9 26 (bL 10 1023) HT_.out rfl rfl ?_
       have H := HZ10.out; clear HZ10
       by_cases c8 : t165 = true
       ·subst c8
        replace H : (laws_eqRecordS.l0 k1 l0 l1 (wrap64 (x5_1 + 1))) = some r := by rw [if_pos rfl] at H; exact H
        have H' := Aside0.mk H; clear H
        refine done_ (done_of HT_.out (by kernel_rfl)) ?_
        try go_wp2
        go_roundg k1
        case measure => have := HK1.out; omega
        case rel => exact ⟨(wrap64 (x5_1 + 1)), (by first | rfl | (simp; done) | (simp [*]; done)), H', ⟨by have := HK1.out; omega⟩, ⟨bw_q HB⟩⟩
       ·replace c8 := Bool.eq_false_iff.mpr c8; subst c8
        replace H : (some false) = some r := by rw [if_neg (show ¬ (false = true) by decide)] at H; exact H
        obtain rfl := Option.some.inj H
        refine done_ (done_of HT_.out (by kernel_rfl)) ?_
        try go_wp2
        go_ret
        exact ⟨er_q, bw_q HB⟩
      ·rw [if_neg c6] at H
       exact absurd H (by simp)
     ·rw [if_neg c5] at H
      exact absurd H (by simp)
    ·rw [if_neg c4] at H
     have c4b0 : decide (x5_1 < (l0.length : Int)) = false := decide_eq_false c4
     clear c4; obtain rfl := Option.some.inj H
     go_wp2
     go_ret
     exact ⟨er_q, bw_q HB⟩
 ·rw [if_neg c3] at H
  have c3b0 : ((l0.length : Int) == (l1.length : Int)) = false := beq_eq_false_iff_ne.mpr c3
  have c3b1 : ((l0.length : Int) != (l1.length : Int)) = true := bne_iff_ne.mpr c3
  have c3b2 : (l0.length == l1.length) = false := by first | simpa using c3 | (simp at c3 ⊢; omega)
  obtain rfl := Option.some.inj H
  go_enter Try.func57, Try.ntmps57
  go_wp2
  go_ret
  exact ⟨er_q, bw_q HB⟩

end Go.Proofs.Ytnecbkognpponaa.Q

/- A Go function as a Lean function, and its contract: for every input the Go code comes to what the Lean function tells. -/



namespace Go.Proofs.Ytnecbkognpponaa.Q
open Go.RowKit Go.Proofs.YtnecbkognpponaaW.PrintWords Go.Proofs.YtnecbkognpponaaW.PrintLast Go.Proofs.YtnecbkognpponaaW.PrintMore
attribute [local go_sem] max2_int min2_int max_two min_two max_three min_three max_four min_four   -- for this text's walks alone
set_option linter.unusedVariables false
set_option linter.unusedSimpArgs false

/-! ### laws_eqPacket: function 18 -/
def laws_eqPacket.f (k : Nat) (a0_0 : Int) (a0_1 : Int) (a0_2 : Int) (a0_3 : Int) (l0_4 : List Int) (l0_5 : List (S24)) (a1_0 : Int) (a1_1 : Int) (a1_2 : Int) (a1_3 : Int) (l1_4 : List Int) (l1_5 : List (S24)) : Option (Bool) := if a0_0 = a1_0 then (if a0_1 = a1_1 then (if a0_2 = a1_2 then (if a0_3 = a1_3 then ((laws_eqIntS.f k l0_4 l1_4).bind fun t168 => (if t168 = true then ((laws_eqRecordS.f k l0_5 l1_5).bind fun t169 => (if t169 = true then (some true) else (some false))) else (some false))) else (some false)) else (some false)) else (some false)) else (some false)
theorem laws_eqPacket.mono : ∀ a0 a1 a2 a3 a4 a5 a6 a7 a8 a9 a10 a11 k, LeO (laws_eqPacket.f k a0 a1 a2 a3 a4 a5 a6 a7 a8 a9 a10 a11) (laws_eqPacket.f (k + 1) a0 a1 a2 a3 a4 a5 a6 a7 a8 a9 a10 a11) := by
 intro a0 a1 a2 a3 a4 a5 a6 a7 a8 a9 a10 a11 k
 unfold laws_eqPacket.f
 repeat' first
   | (with_reducible exact laws_eqIntS.mono _ _ _)
   | (with_reducible exact laws_eqRecordS.mono _ _ _)
   | (with_reducible exact LeO.refl _)
   | (with_reducible exact LeO.none _)
   | (with_reducible refine LeO.ite ?_ ?_)
   | (with_reducible refine LeO.bind ?_ (fun _ => ?_))
   | exact laws_eqIntS.mono _ _ _
   | exact laws_eqRecordS.mono _ _ _
   | exact LeO.none _
   | refine LeO.ite ?_ ?_
   | refine LeO.bind ?_ (fun _ => ?_)
set_option maxHeartbeats 8000000 in
set_option maxRecDepth 100000 in
theorem laws_eqPacket.calls (k : Nat) (a0_0 : Int) (a0_1 : Int) (a0_2 : Int) (a0_3 : Int) (A0_4 : Option Addr) (c0_4 : Nat) (l0_4 : List Int) (A0_5 : Option Addr) (c0_5 : Nat) (l0_5 : List (S24)) (a1_0 : Int) (a1_1 : Int) (a1_2 : Int) (a1_3 : Int) (A1_4 : Option Addr) (c1_4 : Nat) (l1_4 : List Int) (A1_5 : Option Addr) (c1_5 : Nat) (l1_5 : List (S24)) (r : Bool) (w : World) (hr0_4 : Kd.C (Kd.int .i64) w A0_4 l0_4.length l0_4) (hc0_4 : l0_4.length ≤ c0_4) (hr0_5 : Kd.C k24 w A0_5 l0_5.length l0_5) (hc0_5 : l0_5.length ≤ c0_5) (hr1_4 : Kd.C (Kd.int .i64) w A1_4 l1_4.length l1_4) (hc1_4 : l1_4.length ≤ c1_4) (hr1_5 : Kd.C k24 w A1_5 l1_5.length l1_5) (hc1_5 : l1_5.length ≤ c1_5) (h : laws_eqPacket.f k a0_0 a0_1 a0_2 a0_3 l0_4 l0_5 a1_0 a1_1 a1_2 a1_3 l1_4 l1_5 = some r) :
  Calls Try.prog 18 #[.agg #[.int .i64 a0_0, .int .i64 a0_1, .int .i64 a0_2, .int .i64 a0_3, .slice A0_4 l0_4.length c0_4, .slice A0_5 l0_5.length c0_5], .agg #[.int .i64 a1_0, .int .i64 a1_1, .int .i64 a1_2, .int .i64 a1_3, .slice A1_4 l1_4.length c1_4, .slice A1_5 l1_5.length c1_5]] w fun e w' => e = .returned (.bool r) ∧ Below w.heap.size w w' := by
 have hu39 := Try.underlying39; have HR0_4 := Aside0.mk hr0_4; have HC0_4 := Aside0.mk hc0_4; clear hr0_4 hc0_4; have HR0_5 := Aside0.mk hr0_5; have HC0_5 := Aside0.mk hc0_5; clear hr0_5 hc0_5; have HR1_4 := Aside0.mk hr1_4; have HC1_4 := Aside0.mk hc1_4; clear hr1_4 hc1_4; have HR1_5 := Aside0.mk hr1_5; have HC1_5 := Aside0.mk hc1_5; clear hr1_5 hc1_5; have HB := Aside0.mk (Below.refl w.heap.size w)
 have H : (if a0_0 = a1_0 then (if a0_1 = a1_1 then (if a0_2 = a1_2 then (if a0_3 = a1_3 then ((laws_eqIntS.f k l0_4 l1_4).bind fun t168 => (if t168 = true then ((laws_eqRecordS.f k l0_5 l1_5).bind fun t169 => (if t169 = true then (some true) else (some false))) else (some false))) else (some false)) else (some false)) else (some false)) else (some false)) = some r := h
 clear h; have HC3 := Aside0.mk H; clear H
 go_enter Try.func18, Try.ntmps18
 go_upto_if 9 with (first | ((with_reducible refine gate_dst (N := 2) rfl ?_); refine box_q 2 #[.int .i64 a0_0, .int .i64 a0_1, .int .i64 a0_2, .int .i64 a0_3, .slice A0_4 l0_4.length c0_4, .slice A0_5 l0_5.length c0_5] 39 ?_; intro gb166 hg w4 hbox hb; have BK166 := Aside0.mk (hbox); have GW166 := Aside0.mk ((by rw [hg]; exact (below_size (bw_q HB)) : w.heap.size ≤ gb166)); have GE166 := Aside0.mk ((by rw [hg]; exact (below_size (bw_q HB)) : w.heap.size ≤ gb166)); replace HB := Aside0.mk (below_step (bw_q HB) hb); clear hb hbox hg) | ((with_reducible refine gate_dst (N := 3) rfl ?_); refine box_q 3 #[.int .i64 a1_0, .int .i64 a1_1, .int .i64 a1_2, .int .i64 a1_3, .slice A1_4 l1_4.length c1_4, .slice A1_5 l1_5.length c1_5] 39 ?_; intro gb167 hg w5 hbox hb; have BK167 := Aside0.mk (hbox); have GW167 := Aside0.mk ((by rw [hg]; exact (below_size (bw_q HB)) : w.heap.size ≤ gb167)); have GE167 := Aside0.mk ((by rw [hg]; exact (below_size (bw_q HB)) : w.heap.size ≤ gb167)); replace HB := Aside0.mk (below_step (bw_q HB) hb); have NB166_167 := Aside0.mk ((by rw [hg]; exact Nat.ne_of_lt (blk_lt (g := gb166) (o := .cells #[.int .i64 a0_0, .int .i64 a0_1, .int .i64 a0_2, .int .i64 a0_3, .slice A0_4 l0_4.length c0_4, .slice A0_5 l0_5.length c0_5] 39 (0, 0)) (bk_q BK166)) : gb166 ≠ gb167)); have NB167_166 := Aside0.mk ((by rw [hg]; exact Nat.ne_of_gt (blk_lt (g := gb166) (o := .cells #[.int .i64 a0_0, .int .i64 a0_1, .int .i64 a0_2, .int .i64 a0_3, .slice A0_4 l0_4.length c0_4, .slice A0_5 l0_5.length c0_5] 39 (0, 0)) (bk_q BK166)) : gb167 ≠ gb166)); replace BK166 := Aside0.mk (blk_below (g := gb166) (bk_q BK166) hb); clear hb hbox hg; have hnb6 := NB166_167.out; have hnc6 := NB167_166.out; have hcz7_0 : w5.cell? ⟨gb166, 0, none⟩ = some (.int .i64 a0_0) := (blk_cell BK166.out 0).trans rfl; have hcz7_1 : w5.cell? ⟨gb166, 1, none⟩ = some (.int .i64 a0_1) := (blk_cell BK166.out 1).trans rfl; have hcz7_2 : w5.cell? ⟨gb166, 2, none⟩ = some (.int .i64 a0_2) := (blk_cell BK166.out 2).trans rfl; have hcz7_3 : w5.cell? ⟨gb166, 3, none⟩ = some (.int .i64 a0_3) := (blk_cell BK166.out 3).trans rfl; have hcz7_4 : w5.cell? ⟨gb166, 4, none⟩ = some (.slice A0_4 l0_4.length c0_4) := (blk_cell BK166.out 4).trans rfl; have hcz7_5 : w5.cell? ⟨gb166, 5, none⟩ = some (.slice A0_5 l0_5.length c0_5) := (blk_cell BK166.out 5).trans rfl; have hfz7_0 := blk_frozen BK166.out 0; have hfz7_1 := blk_frozen BK166.out 1; have hfz7_2 := blk_frozen BK166.out 2; have hfz7_3 := blk_frozen BK166.out 3; have hfz7_4 := blk_frozen BK166.out 4; have hfz7_5 := blk_frozen BK166.out 5; have hcz8_0 : w5.cell? ⟨gb167, 0, none⟩ = some (.int .i64 a1_0) := (blk_cell BK167.out 0).trans rfl; have hcz8_1 : w5.cell? ⟨gb167, 1, none⟩ = some (.int .i64 a1_1) := (blk_cell BK167.out 1).trans rfl; have hcz8_2 : w5.cell? ⟨gb167, 2, none⟩ = some (.int .i64 a1_2) := (blk_cell BK167.out 2).trans rfl; have hcz8_3 : w5.cell? ⟨gb167, 3, none⟩ = some (.int .i64 a1_3) := (blk_cell BK167.out 3).trans rfl; have hcz8_4 : w5.cell? ⟨gb167, 4, none⟩ = some (.slice A1_4 l1_4.length c1_4) := (blk_cell BK167.out 4).trans rfl; have hcz8_5 : w5.cell? ⟨gb167, 5, none⟩ = some (.slice A1_5 l1_5.length c1_5) := (blk_cell BK167.out 5).trans rfl; have hfz8_0 := blk_frozen BK167.out 0; have hfz8_1 := blk_frozen BK167.out 1; have hfz8_2 := blk_frozen BK167.out 2; have hfz8_3 := blk_frozen BK167.out 3; have hfz8_4 := blk_frozen BK167.out 4; have hfz8_5 := blk_frozen BK167.out 5))
 have H := HC3.out; clear HC3
 by_cases c9 : a0_0 = a1_0
 ·rw [if_pos c9] at H
  have c9b0 : (a0_0 == a1_0) = true := beq_iff_eq.mpr c9
  have c9b1 : (a0_0 != a1_0) = false := bne_eq_false_iff_eq.mpr c9
  clear c9
  (first | rw [c9b0] | rw [c9b1] | (simp only [i64_w, i32_w]; first | rw [c9b0] | rw [c9b1]) | skip)
  by_cases c10 : a0_1 = a1_1
  ·rw [if_pos c10] at H
   have c10b0 : (a0_1 == a1_1) = true := beq_iff_eq.mpr c10
   have c10b1 : (a0_1 != a1_1) = false := bne_eq_false_iff_eq.mpr c10
   clear c10
   by_cases c11 : a0_2 = a1_2
   ·rw [if_pos c11] at H
    have c11b0 : (a0_2 == a1_2) = true := beq_iff_eq.mpr c11
    have c11b1 : (a0_2 != a1_2) = false := bne_eq_false_iff_eq.mpr c11
    clear c11
    by_cases c12 : a0_3 = a1_3
    ·rw [if_pos c12] at H
     have c12b0 : (a0_3 == a1_3) = true := beq_iff_eq.mpr c12
     have c12b1 : (a0_3 != a1_3) = false := bne_eq_false_iff_eq.mpr c12
     clear c12; replace H := Option.bind_eq_some_iff.mp H; obtain ⟨t168, A130, H⟩ := H
     replace H : (if t168 = true then ((laws_eqRecordS.f k l0_5 l1_5).bind fun t169 => (if t169 = true then (some true) else (some false))) else (some false)) = some r := H
     have A13 := Aside0.mk A130; clear A130; have HC14 := Aside0.mk H; clear H; have hnb15 := NB166_167.out; have hnc15 := NB167_166.out
     have hcz16_0 : w5.cell? ⟨gb166, 0, none⟩ = some (.int .i64 a0_0) := (blk_cell BK166.out 0).trans rfl
     have hcz16_1 : w5.cell? ⟨gb166, 1, none⟩ = some (.int .i64 a0_1) := (blk_cell BK166.out 1).trans rfl
     have hcz16_2 : w5.cell? ⟨gb166, 2, none⟩ = some (.int .i64 a0_2) := (blk_cell BK166.out 2).trans rfl
     have hcz16_3 : w5.cell? ⟨gb166, 3, none⟩ = some (.int .i64 a0_3) := (blk_cell BK166.out 3).trans rfl
     have hcz16_4 : w5.cell? ⟨gb166, 4, none⟩ = some (.slice A0_4 l0_4.length c0_4) := (blk_cell BK166.out 4).trans rfl
     have hcz16_5 : w5.cell? ⟨gb166, 5, none⟩ = some (.slice A0_5 l0_5.length c0_5) := (blk_cell BK166.out 5).trans rfl
     have hfz16_0 := blk_frozen BK166.out 0; have hfz16_1 := blk_frozen BK166.out 1; have hfz16_2 := blk_frozen BK166.out 2; have hfz16_3 := blk_frozen BK166.out 3; have hfz16_4 := blk_frozen BK166.out 4; have hfz16_5 := blk_frozen BK166.out 5
     have hcz17_0 : w5.cell? ⟨gb167, 0, none⟩ = some (.int .i64 a1_0) := (blk_cell BK167.out 0).trans rfl
     have hcz17_1 : w5.cell? ⟨gb167, 1, none⟩ = some (.int .i64 a1_1) := (blk_cell BK167.out 1).trans rfl
     have hcz17_2 : w5.cell? ⟨gb167, 2, none⟩ = some (.int .i64 a1_2) := (blk_cell BK167.out 2).trans rfl
     have hcz17_3 : w5.cell? ⟨gb167, 3, none⟩ = some (.int .i64 a1_3) := (blk_cell BK167.out 3).trans rfl
     have hcz17_4 : w5.cell? ⟨gb167, 4, none⟩ = some (.slice A1_4 l1_4.length c1_4) := (blk_cell BK167.out 4).trans rfl
     have hcz17_5 : w5.cell? ⟨gb167, 5, none⟩ = some (.slice A1_5 l1_5.length c1_5) := (blk_cell BK167.out 5).trans rfl
     have hfz17_0 := blk_frozen BK167.out 0; have hfz17_1 := blk_frozen BK167.out 1; have hfz17_2 := blk_frozen BK167.out 2; have hfz17_3 := blk_frozen BK167.out 3; have hfz17_4 := blk_frozen BK167.out 4; have hfz17_5 := blk_frozen BK167.out 5
     go_upto_if 30 with (first | ((with_reducible refine gate_callee (f := 56) rfl ?_); refine goesL_ (some 29) rfl rfl Try.func56 (by kernel_rfl) rfl #[.slice A0_4 l0_4.length c0_4, .slice A1_4 l1_4.length c1_4] rfl mp_q ?_; (with_reducible refine (laws_eqIntS.calls k _ _ l0_4 _ _ l1_4 t168 _ ?side1 ?side2 ?side3 ?side4 A13.out).mono ?_); (case side1 => exact cs_q (Kd.C_below HR0_4.out HB.out)); (case side2 => exact HC0_4.out); (case side3 => exact cs_q (Kd.C_below HR1_4.out HB.out)); (case side4 => exact HC1_4.out); rintro e w' ⟨rfl, ⟨nd, rfl⟩⟩; refine ⟨_, rfl, ?_⟩))
     have H := HC14.out; clear HC14
     by_cases c18 : t168 = true
     ·subst c18
      replace H : ((laws_eqRecordS.f k l0_5 l1_5).bind fun t169 => (if t169 = true then (some true) else (some false))) = some r := by rw [if_pos rfl] at H; exact H
      replace H := Option.bind_eq_some_iff.mp H; obtain ⟨t169, A190, H⟩ := H
      replace H : (if t169 = true then (some true) else (some false)) = some r := H
      have A19 := Aside0.mk A190; clear A190; have HC20 := Aside0.mk H; clear H; have hnb21 := NB166_167.out; have hnc21 := NB167_166.out
      have hcz22_0 : w5.cell? ⟨gb166, 0, none⟩ = some (.int .i64 a0_0) := (blk_cell BK166.out 0).trans rfl
      have hcz22_1 : w5.cell? ⟨gb166, 1, none⟩ = some (.int .i64 a0_1) := (blk_cell BK166.out 1).trans rfl
      have hcz22_2 : w5.cell? ⟨gb166, 2, none⟩ = some (.int .i64 a0_2) := (blk_cell BK166.out 2).trans rfl
      have hcz22_3 : w5.cell? ⟨gb166, 3, none⟩ = some (.int .i64 a0_3) := (blk_cell BK166.out 3).trans rfl
      have hcz22_4 : w5.cell? ⟨gb166, 4, none⟩ = some (.slice A0_4 l0_4.length c0_4) := (blk_cell BK166.out 4).trans rfl
      have hcz22_5 : w5.cell? ⟨gb166, 5, none⟩ = some (.slice A0_5 l0_5.length c0_5) := (blk_cell BK166.out 5).trans rfl
      have hfz22_0 := blk_frozen BK166.out 0; have hfz22_1 := blk_frozen BK166.out 1; have hfz22_2 := blk_frozen BK166.out 2; have hfz22_3 := blk_frozen BK166.out 3; have hfz22_4 := blk_frozen BK166.out 4; have hfz22_5 := blk_frozen BK166.out 5
      have hcz23_0 : w5.cell? ⟨gb167, 0, none⟩ = some (.int .i64 a1_0) := (blk_cell BK167.out 0).trans rfl
      have hcz23_1 : w5.cell? ⟨gb167, 1, none⟩ = some (.int .i64 a1_1) := (blk_cell BK167.out 1).trans rfl
      have hcz23_2 : w5.cell? ⟨gb167, 2, none⟩ = some (.int .i64 a1_2) := (blk_cell BK167.out 2).trans rfl
      have hcz23_3 : w5.cell? ⟨gb167, 3, none⟩ = some (.int .i64 a1_3) := (blk_cell BK167.out 3).trans rfl
      have hcz23_4 : w5.cell? ⟨gb167, 4, none⟩ = some (.slice A1_4 l1_4.length c1_4) := (blk_cell BK167.out 4).trans rfl
      have hcz23_5 : w5.cell? ⟨gb167, 5, none⟩ = some (.slice A1_5 l1_5.length c1_5) := (blk_cell BK167.out 5).trans rfl
      have hfz23_0 := blk_frozen BK167.out 0; have hfz23_1 := blk_frozen BK167.out 1; have hfz23_2 := blk_frozen BK167.out 2; have hfz23_3 := blk_frozen BK167.out 3; have hfz23_4 := blk_frozen BK167.out 4; have hfz23_5 := blk_frozen BK167.out 5
      go_upto_if 36 with (first | ((with_reducible refine gate_callee (f := 57) rfl ?_); refine goesL_ (some 35) rfl rfl Try.func57 (by kernel_rfl) rfl #[.slice A0_5 l0_5.length c0_5, .slice A1_5 l1_5.length c1_5] rfl mp_q ?_; (with_reducible refine (laws_eqRecordS.calls k _ _ l0_5 _ _ l1_5 t169 _ ?side1 ?side2 ?side3 ?side4 A19.out).mono ?_); (case side1 => exact cs_q (Kd.C_below HR0_5.out HB.out)); (case side2 => exact HC0_5.out); (case side3 => exact cs_q (Kd.C_below HR1_5.out HB.out)); (case side4 => exact HC1_5.out); rintro e w24 ⟨rfl, hb⟩; refine ⟨_, rfl, ?_⟩; replace BK166 := Aside0.mk (blk_below (g := gb166) (bk_q BK166) hb); replace BK167 := Aside0.mk (blk_below (g := gb167) (bk_q BK167) hb); replace HB := Aside0.mk (below_step (bw_q HB) hb); (try clear hb); (try clear hb2); (try clear hk); (try clear hi)))
      have H := HC20.out; clear HC20
      by_cases c25 : t169 = true
      ·subst c25
       replace H : (some true) = some r := by rw [if_pos rfl] at H; exact H
       obtain rfl := Option.some.inj H
       go_wp2
       go_ret
       exact ⟨er_q, bw_q HB⟩
      ·replace c25 := Bool.eq_false_iff.mpr c25; subst c25
       replace H : (some false) = some r := by rw [if_neg (show ¬ (false = true) by decide)] at H; exact H
       obtain rfl := Option.some.inj H
       go_wp2
       go_ret
       exact ⟨er_q, bw_q HB⟩
     ·replace c18 := Bool.eq_false_iff.mpr c18; subst c18
      replace H : (some false) = some r := by rw [if_neg (show ¬ (false = true) by decide)] at H; exact H
      obtain rfl := Option.some.inj H
      go_wp2
      go_ret
      exact ⟨er_q, bw_q HB⟩
    ·rw [if_neg c12] at H
     have c12b0 : (a0_3 == a1_3) = false := beq_eq_false_iff_ne.mpr c12
     have c12b1 : (a0_3 != a1_3) = true := bne_iff_ne.mpr c12
     obtain rfl := Option.some.inj H; have hnb26 := NB166_167.out; have hnc26 := NB167_166.out
     have hcz27_0 : w5.cell? ⟨gb166, 0, none⟩ = some (.int .i64 a0_0) := (blk_cell BK166.out 0).trans rfl
     have hcz27_1 : w5.cell? ⟨gb166, 1, none⟩ = some (.int .i64 a0_1) := (blk_cell BK166.out 1).trans rfl
     have hcz27_2 : w5.cell? ⟨gb166, 2, none⟩ = some (.int .i64 a0_2) := (blk_cell BK166.out 2).trans rfl
     have hcz27_3 : w5.cell? ⟨gb166, 3, none⟩ = some (.int .i64 a0_3) := (blk_cell BK166.out 3).trans rfl
     have hcz27_4 : w5.cell? ⟨gb166, 4, none⟩ = some (.slice A0_4 l0_4.length c0_4) := (blk_cell BK166.out 4).trans rfl
     have hcz27_5 : w5.cell? ⟨gb166, 5, none⟩ = some (.slice A0_5 l0_5.length c0_5) := (blk_cell BK166.out 5).trans rfl
     have hfz27_0 := blk_frozen BK166.out 0; have hfz27_1 := blk_frozen BK166.out 1; have hfz27_2 := blk_frozen BK166.out 2; have hfz27_3 := blk_frozen BK166.out 3; have hfz27_4 := blk_frozen BK166.out 4; have hfz27_5 := blk_frozen BK166.out 5
     have hcz28_0 : w5.cell? ⟨gb167, 0, none⟩ = some (.int .i64 a1_0) := (blk_cell BK167.out 0).trans rfl
     have hcz28_1 : w5.cell? ⟨gb167, 1, none⟩ = some (.int .i64 a1_1) := (blk_cell BK167.out 1).trans rfl
     have hcz28_2 : w5.cell? ⟨gb167, 2, none⟩ = some (.int .i64 a1_2) := (blk_cell BK167.out 2).trans rfl
     have hcz28_3 : w5.cell? ⟨gb167, 3, none⟩ = some (.int .i64 a1_3) := (blk_cell BK167.out 3).trans rfl
     have hcz28_4 : w5.cell? ⟨gb167, 4, none⟩ = some (.slice A1_4 l1_4.length c1_4) := (blk_cell BK167.out 4).trans rfl
     have hcz28_5 : w5.cell? ⟨gb167, 5, none⟩ = some (.slice A1_5 l1_5.length c1_5) := (blk_cell BK167.out 5).trans rfl
     have hfz28_0 := blk_frozen BK167.out 0; have hfz28_1 := blk_frozen BK167.out 1; have hfz28_2 := blk_frozen BK167.out 2; have hfz28_3 := blk_frozen BK167.out 3; have hfz28_4 := blk_frozen BK167.out 4; have hfz28_5 := blk_frozen BK167.out 5
     go_wp2
     go_ret
     exact ⟨er_q, bw_q HB⟩
   ·rw [if_neg c11] at H
    have c11b0 : (a0_2 == a1_2) = false := beq_eq_false_iff_ne.mpr c11
    have c11b1 : (a0_2 != a1_2) = true := bne_iff_ne.mpr c11
    obtain rfl := Option.some.inj H; have hnb29 := NB166_167.out; have hnc29 := NB167_166.out
    have hcz30_0 : w5.cell? ⟨gb166, 0, none⟩ = some (.int .i64 a0_0) := (blk_cell BK166.out 0).trans rfl
    have hcz30_1 : w5.cell? ⟨gb166, 1, none⟩ = some (.int .i64 a0_1) := (blk_cell BK166.out 1).trans rfl
    have hcz30_2 : w5.cell? ⟨gb166, 2, none⟩ = some (.int .i64 a0_2) := (blk_cell BK166.out 2).trans rfl
    have hcz30_3 : w5.cell? ⟨gb166, 3, none⟩ = some (.int .i64 a0_3) := (blk_cell BK166.out 3).trans rfl
    have hcz30_4 : w5.cell? ⟨gb166, 4, none⟩ = some (.slice A0_4 l0_4.length c0_4) := (blk_cell BK166.out 4).trans rfl
    have hcz30_5 : w5.cell? ⟨gb166, 5, none⟩ = some (.slice A0_5 l0_5.length c0_5) := (blk_cell BK166.out 5).trans rfl
    have hfz30_0 := blk_frozen BK166.out 0; have hfz30_1 := blk_frozen BK166.out 1; have hfz30_2 := blk_frozen BK166.out 2; have hfz30_3 := blk_frozen BK166.out 3; have hfz30_4 := blk_frozen BK166.out 4; have hfz30_5 := blk_frozen BK166.out 5
    have hcz31_0 : w5.cell? ⟨gb167, 0, none⟩ = some (.int .i64 a1_0) := (blk_cell BK167.out 0).trans rfl
    have hcz31_1 : w5.cell? ⟨gb167, 1, none⟩ = some (.int .i64 a1_1) := (blk_cell BK167.out 1).trans rfl
    have hcz31_2 : w5.cell? ⟨gb167, 2, none⟩ = some (.int .i64 a1_2) := (blk_cell BK167.out 2).trans rfl
    have hcz31_3 : w5.cell? ⟨gb167, 3, none⟩ = some (.int .i64 a1_3) := (blk_cell BK167.out 3).trans rfl
    have hcz31_4 : w5.cell? ⟨gb167, 4, none⟩ = some (.slice A1_4 l1_4.length c1_4) := (blk_cell BK167.out 4).trans rfl
    have hcz31_5 : w5.cell? ⟨gb167, 5, none⟩ = some (.slice A1_5 l1_5.length c1_5) := (blk_cell BK167.out 5).trans rfl
    have hfz31_0 := blk_frozen BK167.out 0; have hfz31_1 := blk_frozen BK167.out 1; have hfz31_2 := blk_frozen BK167.out 2; have hfz31_3 := blk_frozen BK167.out 3; have hfz31_4 := blk_frozen BK167.out 4; have hfz31_5 := blk_frozen BK167.out 5
    go_wp2
    go_ret
    exact ⟨er_q, bw_q HB⟩
  ·rw [if_neg c10] at H
   have c10b0 : (a0_1 == a1_1) = false := beq_eq_false_iff_ne.mpr c10
   have c10b1 : (a0_1 != a1_1) = true := bne_iff_ne.mpr c10
   obtain rfl := Option.some.inj H; have hnb32 := NB166_167.out; have hnc32 := NB167_166.out
   have hcz33_0 : w5.cell? ⟨gb166, 0, none⟩ = some (.int .i64 a0_0) := (blk_cell BK166.out 0).trans rfl
   have hcz33_1 : w5.cell? ⟨gb166, 1, none⟩ = some (.int .i64 a0_1) := (blk_cell BK166.out 1).trans rfl
   have hcz33_2 : w5.cell? ⟨gb166, 2, none⟩ = some (.int .i64 a0_2) := (blk_cell BK166.out 2).trans rfl
   have hcz33_3 : w5.cell? ⟨gb166, 3, none⟩ = some (.int .i64 a0_3) := (blk_cell BK166.out 3).trans rfl
   have hcz33_4 : w5.cell? ⟨gb166, 4, none⟩ = some (.slice A0_4 l0_4.length c0_4) := (blk_cell BK166.out 4).trans rfl
   have hcz33_5 : w5.cell? ⟨gb166, 5, none⟩ = some (.slice A0_5 l0_5.length c0_5) := (blk_cell BK166.out 5).trans rfl
   have hfz33_0 := blk_frozen BK166.out 0; have hfz33_1 := blk_frozen BK166.out 1; have hfz33_2 := blk_frozen BK166.out 2; have hfz33_3 := blk_frozen BK166.out 3; have hfz33_4 := blk_frozen BK166.out 4; have hfz33_5 := blk_frozen BK166.out 5
   have hcz34_0 : w5.cell? ⟨gb167, 0, none⟩ = some (.int .i64 a1_0) := (blk_cell BK167.out 0).trans rfl
   have hcz34_1 : w5.cell? ⟨gb167, 1, none⟩ = some (.int .i64 a1_1) := (blk_cell BK167.out 1).trans rfl
   have hcz34_2 : w5.cell? ⟨gb167, 2, none⟩ = some (.int .i64 a1_2) := (blk_cell BK167.out 2).trans rfl
   have hcz34_3 : w5.cell? ⟨gb167, 3, none⟩ = some (.int .i64 a1_3) := (blk_cell BK167.out 3).trans rfl
   have hcz34_4 : w5.cell? ⟨gb167, 4, none⟩ = some (.slice A1_4 l1_4.length c1_4) := (blk_cell BK167.out 4).trans rfl
   have hcz34_5 : w5.cell? ⟨gb167, 5, none⟩ = some (.slice A1_5 l1_5.length c1_5) := (blk_cell BK167.out 5).trans rfl
   have hfz34_0 := blk_frozen BK167.out 0; have hfz34_1 := blk_frozen BK167.out 1; have hfz34_2 := blk_frozen BK167.out 2; have hfz34_3 := blk_frozen BK167.out 3; have hfz34_4 := blk_frozen BK167.out 4; have hfz34_5 := blk_frozen BK167.out 5
   go_wp2
   go_ret
   exact ⟨er_q, bw_q HB⟩
 ·rw [if_neg c9] at H
  have c9b0 : (a0_0 == a1_0) = false := beq_eq_false_iff_ne.mpr c9
  have c9b1 : (a0_0 != a1_0) = true := bne_iff_ne.mpr c9
  (first | rw [c9b0] | rw [c9b1] | (simp only [i64_w, i32_w]; first | rw [c9b0] | rw [c9b1]) | skip)
  obtain rfl := Option.some.inj H
  go_wp2
  go_ret
  exact ⟨er_q, bw_q HB⟩

end Go.Proofs.Ytnecbkognpponaa.Q

/- A Go function as a Lean function, and its contract: for every input the Go code comes to what the Lean function tells. -/

namespace Go.Proofs.Ytnecbkognpponaa.Q
open Go.RowKit Go.Proofs.YtnecbkognpponaaW.PrintWords Go.Proofs.YtnecbkognpponaaW.PrintLast Go.Proofs.YtnecbkognpponaaW.PrintMore
attribute [local go_sem] max2_int min2_int max_two min_two max_three min_three max_four min_four   -- for this text's walks alone
set_option linter.unusedVariables false
set_option linter.unusedSimpArgs false

/-! ### spec_l01In: function 67 -/
def spec_l01In.f (a0 : Int) (a1 : Int) (a2 : Int) : Option (Bool) := if a0 ≥ a1 then (some (decide (a0 ≤ a2))) else (some false)
set_option maxHeartbeats 8000000 in
set_option maxRecDepth 100000 in
theorem spec_l01In.calls (a0 : Int) (a1 : Int) (a2 : Int) (r : Bool) (w : World) (h : spec_l01In.f a0 a1 a2 = some r) :
  Calls Try.prog 67 #[.int .i64 a0, .int .i64 a1, .int .i64 a2] w fun e w' => e = .returned (.bool r) ∧ Drawn0 w w' := by
 have H : (if a0 ≥ a1 then (some (decide (a0 ≤ a2))) else (some false)) = some r := h
 clear h
 by_cases c4 : a0 ≥ a1
 ·rw [if_pos c4] at H
  have c4b0 : decide (a1 ≤ a0) = true := decide_eq_true c4
  clear c4; obtain rfl := Option.some.inj H
  go_enter Try.func67, Try.ntmps67
  go_wp2
  go_ret
  exact ⟨by first | rfl | (simp; done) | (simp [*]; done), by repeat (first | exact Drawn0.refl _ | apply Drawn0.step)⟩
 ·rw [if_neg c4] at H
  have c4b0 : decide (a1 ≤ a0) = false := decide_eq_false c4
  clear c4; obtain rfl := Option.some.inj H
  go_enter Try.func67, Try.ntmps67
  go_wp2
  go_ret
  exact ⟨by first | rfl | (simp; done) | (simp [*]; done), by repeat (first | exact Drawn0.refl _ | apply Drawn0.step)⟩

end Go.Proofs.Ytnecbkognpponaa.Q

/- A Go function as a Lean function, and its contract: for every input the Go code comes to what the Lean function tells. -/


namespace Go.Proofs.Ytnecbkognpponaa.Q
open Go.RowKit Go.Proofs.YtnecbkognpponaaW.PrintWords Go.Proofs.YtnecbkognpponaaW.PrintLast Go.Proofs.YtnecbkognpponaaW.PrintMore
attribute [local go_sem] max2_int min2_int max_two min_two max_three min_three max_four min_four   -- for this text's walks alone
set_option linter.unusedVariables false
set_option linter.unusedSimpArgs false

/-! ### spec_l04Near: function 68 -/
def spec_l04Near.l0 : Nat → Int → Int → Int → Int → Int → Int → List (S63) → Int → Bool → Option (Bool)
 | 0, _, _, _, _, _, _, _, _, _ => none
 | k + 1, x3, x171000, x171001, x171002, x171003, x171004, x171005, x171006, x171007 => if x3 < (x171005.length : Int) then (if 0 ≤ x3 then ((spec_l01In.f ((rd_T63 x171005 x3).f0) 1 6).bind fun t173 => (if t173 = true then (if ((rd_T63 x171005 x3).f0) = x171002 then (some false) else ((spec_l01In.f ((rd_T63 x171005 x3).f1) 1 1000).bind fun t174 => (if t174 = true then (if x3 > 0 then (if 0 ≤ (wrap64 (x3 - 1)) then (if (wrap64 (x3 - 1)) < (x171005.length : Int) then (if ((rd_T63 x171005 (wrap64 (x3 - 1))).f0) ≥ ((rd_T63 x171005 x3).f0) then (some false) else (spec_l04Near.l0 k (wrap64 (x3 + 1)) x171000 x171001 x171002 x171003 x171004 x171005 x171006 x171007)) else (none)) else (none)) else (spec_l04Near.l0 k (wrap64 (x3 + 1)) x171000 x171001 x171002 x171003 x171004 x171005 x171006 x171007)) else (some false)))) else (some false))) else (none)) else (some true)
def spec_l04Near.f (k : Nat) (a0_0 : Int) (a0_1 : Int) (a0_2 : Int) (a0_3 : Int) (a0_4 : Int) (l0_5 : List (S63)) (a0_6 : Int) (a0_7 : Bool) : Option (Bool) := spec_l04Near.l0 k 0 a0_0 a0_1 a0_2 a0_3 a0_4 l0_5 a0_6 a0_7
theorem spec_l04Near.mono_l : ∀ k, (∀ y0 y1 y2 y3 y4 y5 y6 y7 y8, LeO (spec_l04Near.l0 k y0 y1 y2 y3 y4 y5 y6 y7 y8) (spec_l04Near.l0 (k + 1) y0 y1 y2 y3 y4 y5 y6 y7 y8))
 | 0 => fun _ _ _ _ _ _ _ _ _ r h => by simp [spec_l04Near.l0] at h
 | k + 1 => by
  have ih0 := spec_l04Near.mono_l k
  ·intro y0 y1 y2 y3 y4 y5 y6 y7 y8
   unfold spec_l04Near.l0
   repeat' first
   | (with_reducible exact ih0 _ _ _ _ _ _ _ _ _)
   | (with_reducible exact LeO.refl _)
   | (with_reducible exact LeO.none _)
   | (with_reducible refine LeO.ite ?_ ?_)
   | (with_reducible refine LeO.bind ?_ (fun _ => ?_))
   | exact ih0 _ _ _ _ _ _ _ _ _
   | exact LeO.none _
   | refine LeO.ite ?_ ?_
   | refine LeO.bind ?_ (fun _ => ?_)
theorem spec_l04Near.mono : ∀ a0 a1 a2 a3 a4 a5 a6 a7 k, LeO (spec_l04Near.f k a0 a1 a2 a3 a4 a5 a6 a7) (spec_l04Near.f (k + 1) a0 a1 a2 a3 a4 a5 a6 a7) := by
 intro a0 a1 a2 a3 a4 a5 a6 a7 k
 have ih0 := spec_l04Near.mono_l k
 unfold spec_l04Near.f
 repeat' first
   | (with_reducible exact ih0 _ _ _ _ _ _ _ _ _)
   | (with_reducible exact LeO.refl _)
   | (with_reducible exact LeO.none _)
   | (with_reducible refine LeO.ite ?_ ?_)
   | (with_reducible refine LeO.bind ?_ (fun _ => ?_))
   | exact ih0 _ _ _ _ _ _ _ _ _
   | exact LeO.none _
   | refine LeO.ite ?_ ?_
   | refine LeO.bind ?_ (fun _ => ?_)
def spec_l04Near.T5 : Bool × List (List Nat × List Nat) := (true, [([], []), ([0], [0]), ([1], [1]), ([2], [2]), ([3, 2], [3]), ([4], [4]), ([5, 4], [4, 5]), ([4], [4]), ([7, 4], [4, 7]), ([6, 8, 4], [4, 6, 8]), ([4, 9], [4, 9]), ([10, 4], [10]), ([11], [11]), ([12, 11], [11, 12]), ([13, 11, 11], [11, 13]), ([14, 11], [11, 14]), ([11, 15], [11, 15]), ([16, 14], [16]), ([17], [17]), ([18, 17], [17, 18]), ([19, 17, 17], [17, 19]), ([20], [20]), ([21, 20], [20, 21]), ([20], [20]), ([23, 20], [20, 23]), ([22, 24, 20], [20, 22, 24]), ([25, 20], [20, 25]), ([26, 20], [20, 26]), ([20], [20]), ([28, 20], [20, 28]), ([27, 29, 20], [20, 27, 29]), ([20, 30, 17], [17, 20, 30]), ([17, 31], [17, 31])])
def spec_l04Near.B5 : List Nat := [0, 1, 3, 7, 15, 31, 63, 31, 159, 511, 1023, 2047, 4095, 8191, 16383, 32767, 65535, 131071, 262143, 524287, 1048575, 2097151, 4194303, 2097151, 10485759, 33554431, 67108863, 134217727, 2097151, 270532607, 1073741823, 2147483647, 4294967295]
theorem spec_l04Near.tab5 : rtab .any (opsOf Try.f68 5) = spec_l04Near.T5 := by kernel_rfl
theorem spec_l04Near.bits5 : waitsOk spec_l04Near.T5.2 spec_l04Near.B5 = true := by kernel_rfl
set_option maxHeartbeats 8000000 in
set_option maxRecDepth 100000 in
theorem spec_l04Near.calls (k : Nat) (a0_0 : Int) (a0_1 : Int) (a0_2 : Int) (a0_3 : Int) (a0_4 : Int) (A0_5 : Option Addr) (c0_5 : Nat) (l0_5 : List (S63)) (a0_6 : Int) (a0_7 : Bool) (r : Bool) (w : World) (hr0_5 : Kd.C k63 w A0_5 l0_5.length l0_5) (hc0_5 : l0_5.length ≤ c0_5) (h : spec_l04Near.f k a0_0 a0_1 a0_2 a0_3 a0_4 l0_5 a0_6 a0_7 = some r) :
  Calls Try.prog 68 #[.agg #[.int .i64 a0_0, .int .i64 a0_1, .int .i64 a0_2, .int .i64 a0_3, .int .i64 a0_4, .slice A0_5 l0_5.length c0_5, .int .i64 a0_6, .bool a0_7]] w fun e w' => e = .returned (.bool r) ∧ Below w.heap.size w w' := by
 have hu24 := Try.underlying24; have hu63 := Try.underlying63; have HR0_5 := Aside0.mk hr0_5; have HC0_5 := Aside0.mk hc0_5; clear hr0_5 hc0_5; have HB := Aside0.mk (Below.refl w.heap.size w)
 have H : (spec_l04Near.l0 k 0 a0_0 a0_1 a0_2 a0_3 a0_4 l0_5 a0_6 a0_7) = some r := h
 clear h; have H' := Aside0.mk H; clear H
 go_enter Try.func68, Try.ntmps68
 go_wp2_with (first | ((with_reducible refine gate_dst (N := 1) rfl ?_); refine box_q 1 #[.int .i64 a0_0, .int .i64 a0_1, .int .i64 a0_2, .int .i64 a0_3, .int .i64 a0_4, .slice A0_5 l0_5.length c0_5, .int .i64 a0_6, .bool a0_7] 24 ?_; intro gb170 hg w2 hbox hb; have BK170 := Aside0.mk (hbox); have GW170 := Aside0.mk ((by rw [hg]; exact (below_size (bw_q HB)) : w.heap.size ≤ gb170)); have GE170 := Aside0.mk ((by rw [hg]; exact (below_size (bw_q HB)) : w.heap.size ≤ gb170)); replace HB := Aside0.mk (below_step (bw_q HB) hb); clear hb hbox hg))
 go_loopg [3] k (fun kq v3 w' => ∃ (x3_1 : Int), v3 = .int .i64 x3_1 ∧ Aside0 (spec_l04Near.l0 kq x3_1 a0_0 a0_1 a0_2 a0_3 a0_4 l0_5 a0_6 a0_7 = some r) ∧ Aside0 (kq ≤ k) ∧ Aside0 (w'.heap[gb170]? = some (.cells #[.int .i64 a0_0, .int .i64 a0_1, .int .i64 a0_2, .int .i64 a0_3, .int .i64 a0_4, (.slice A0_5 l0_5.length c0_5), .int .i64 a0_6, .bool a0_7] 24 (0, 0))) ∧ Aside0 (Below w.heap.size w w'))
 case atStart => exact ⟨(0), (by first | rfl | (simp; done) | (simp [*]; done)), H', ⟨Nat.le_refl _⟩, ⟨by refine bz_ ?_; exact BK170.out⟩, ⟨bw_q HB⟩⟩
 case round =>
  clear H'; (try clear p2); obtain ⟨x3_1, rfl, HA, HK1, BK170, HB⟩ := hrel
  cases gk with
  | zero => exact absurd HA.out (by simp [spec_l04Near.l0])
  | succ k1 =>
   have H := HA.out; clear HA
   simp only [spec_l04Near.l0] at H
   by_cases c3 : x3_1 < (l0_5.length : Int)
   ·rw [if_pos c3] at H
    have c3b0 : decide (x3_1 < (l0_5.length : Int)) = true := decide_eq_true c3
    clear c3
    by_cases c4 : 0 ≤ x3_1
    ·rw [if_pos c4] at H
     have c4b0 : decide (0 ≤ x3_1) = true := decide_eq_true c4
     clear c4; replace H := Option.bind_eq_some_iff.mp H; obtain ⟨t173, A50, H⟩ := H
     replace H : (if t173 = true then (if ((rd_T63 l0_5 x3_1).f0) = a0_2 then (some false) else ((spec_l01In.f ((rd_T63 l0_5 x3_1).f1) 1 1000).bind fun t174 => (if t174 = true then (if x3_1 > 0 then (if 0 ≤ (wrap64 (x3_1 - 1)) then (if (wrap64 (x3_1 - 1)) < (l0_5.length : Int) then (if ((rd_T63 l0_5 (wrap64 (x3_1 - 1))).f0) ≥ ((rd_T63 l0_5 x3_1).f0) then (some false) else (spec_l04Near.l0 k1 (wrap64 (x3_1 + 1)) a0_0 a0_1 a0_2 a0_3 a0_4 l0_5 a0_6 a0_7)) else (none)) else (none)) else (spec_l04Near.l0 k1 (wrap64 (x3_1 + 1)) a0_0 a0_1 a0_2 a0_3 a0_4 l0_5 a0_6 a0_7)) else (some false)))) else (some false)) = some r := H
     have A5 := Aside0.mk A50; clear A50; have HZ28 := Aside0.mk H; clear H; obtain ⟨hcz8_0, hcz8_1, hcz8_2, hcz8_3, hcz8_4, hcz8_5, hcz8_6, hcz8_7⟩ := cz8_ BK170; obtain ⟨hfz8_0, hfz8_1, hfz8_2, hfz8_3, hfz8_4, hfz8_5, hfz8_6, hfz8_7⟩ := fz8_ BK170
     have p171 : 0 ≤ (x3_1 : Int) := of_decide_eq_true as_q
     have q171 : x3_1 < (l0_5.length : Int) := of_decide_eq_true as_q
     obtain ⟨ad171, e171, hx171_0, hx171_1⟩ := at_T63 HR0_5.out x3_1 p171 q171
     cases e171
     replace hx171_0 := (HB.out.cell (World.block_lt_of_cell? w _ hx171_0)).trans hx171_0
     replace hx171_1 := (HB.out.cell (World.block_lt_of_cell? w _ hx171_1)).trans hx171_1
     replace p171 := eq_true p171; replace q171 := eq_true q171
     try go_wp2_with (first | ((with_reducible refine gate_dst (N := 4) rfl ?_); refine box_q 4 #[.int .i64 0, .int .i64 0] 63 ?_; intro gb172 hg w9 hbox hb; have BK172 := Aside0.mk (hbox); have GW172 := Aside0.mk ((by rw [hg]; exact (below_size (bw_q HB)) : w.heap.size ≤ gb172)); have GE172 := Aside0.mk ((by rw [hg]; exact (below_size (bw_q HB)) : w.heap.size ≤ gb172)); replace HB := Aside0.mk (below_step (bw_q HB) hb); have NB170_172 := Aside0.mk ((by rw [hg]; exact Nat.ne_of_lt (blk_lt (g := gb170) (o := .cells #[.int .i64 a0_0, .int .i64 a0_1, .int .i64 a0_2, .int .i64 a0_3, .int .i64 a0_4, .slice (some ad171) l0_5.length c0_5, .int .i64 a0_6, .bool a0_7] 24 (0, 0)) (bk_q BK170)) : gb170 ≠ gb172)); have NB172_170 := Aside0.mk ((by rw [hg]; exact Nat.ne_of_gt (blk_lt (g := gb170) (o := .cells #[.int .i64 a0_0, .int .i64 a0_1, .int .i64 a0_2, .int .i64 a0_3, .int .i64 a0_4, .slice (some ad171) l0_5.length c0_5, .int .i64 a0_6, .bool a0_7] 24 (0, 0)) (bk_q BK170)) : gb172 ≠ gb170)); replace BK170 := Aside0.mk (blk_below (g := gb170) (bk_q BK170) hb); clear hb hbox hg; have hnb10 := NB172_170.out; have hnc10 := NB170_172.out; have hcz11_0 : w9.cell? ⟨gb172, 0, none⟩ = some (.int .i64 0) := (blk_cell BK172.out 0).trans rfl; have hcz11_1 : w9.cell? ⟨gb172, 1, none⟩ = some (.int .i64 0) := (blk_cell BK172.out 1).trans rfl; have hfz11_0 := blk_frozen BK172.out 0; have hfz11_1 := blk_frozen BK172.out 1))
     have n0_ : Aside0 (((w9.setCell ⟨gb172, 0, none⟩ (.int .i64 ((rd_T63 l0_5 x3_1).f0))).setCell ⟨gb172, 1, none⟩ (.int .i64 ((rd_T63 l0_5 x3_1).f1))).heap[gb170]? = some (.cells #[.int .i64 a0_0, .int .i64 a0_1, .int .i64 a0_2, .int .i64 a0_3, .int .i64 a0_4, .slice (some ad171) l0_5.length c0_5, .int .i64 a0_6, .bool a0_7] 24 (0, 0))) := ⟨by refine bz_ ?_; refine blk_far ?_ NB170_172.out _; refine bz_ ?_; refine blk_far ?_ NB170_172.out _; refine bz_ ?_; exact BK170.out⟩
     have n1_ : Aside0 (((w9.setCell ⟨gb172, 0, none⟩ (.int .i64 ((rd_T63 l0_5 x3_1).f0))).setCell ⟨gb172, 1, none⟩ (.int .i64 ((rd_T63 l0_5 x3_1).f1))).heap[gb172]? = some (.cells #[.int .i64 ((rd_T63 l0_5 x3_1).f0), .int .i64 ((rd_T63 l0_5 x3_1).f1)] 63 (0, 0))) := ⟨by refine bz_ ?_; refine blk_put (cs := #[.int .i64 ((rd_T63 l0_5 x3_1).f0), .int .i64 0]) ?_ 1 _ rfl; refine bz_ ?_; refine blk_put (cs := #[.int .i64 0, .int .i64 0]) ?_ 0 _ rfl; refine bz_ ?_; exact BK172.out⟩
     have n2_ : Aside0 (Below w.heap.size w ((w9.setCell ⟨gb172, 0, none⟩ (.int .i64 ((rd_T63 l0_5 x3_1).f0))).setCell ⟨gb172, 1, none⟩ (.int .i64 ((rd_T63 l0_5 x3_1).f1)))) := ⟨bw_q HB⟩
     (try clear BK170); (try clear BK172); (try clear HB)
     generalize ((w9.setCell ⟨gb172, 0, none⟩ (.int .i64 ((rd_T63 l0_5 x3_1).f0))).setCell ⟨gb172, 1, none⟩ (.int .i64 ((rd_T63 l0_5 x3_1).f1))) = w12 at n0_ n1_ n2_ ⊢
     have BK170 := n0_; have BK172 := n1_; have HB := n2_; clear n0_ n1_ n2_; replace BK170 := Aside0.mk (blk_drew BK170.out); replace BK172 := Aside0.mk (blk_drew BK172.out); replace HB := Aside0.mk (below_drew1 HB.out)
     refine start_ (n := 33) (S := fun w' => w'.cell? ⟨gb172, 0, none⟩ = some (.int .i64 ((rd_T63 l0_5 x3_1).f0)) ∧ w'.cell? ⟨gb172, 1, none⟩ = some (.int .i64 ((rd_T63 l0_5 x3_1).f1))) (ds := []) (bL 33 0) (by kernel_rfl) rfl rfl ⟨(blk_cell BK172.out 0).trans rfl, (blk_cell BK172.out 1).trans rfl⟩ (fun hHeld => ?_); refine with_tabW spec_l04Near.tab5 spec_l04Near.bits5 (fun HT_ HW_ => ?_)
     generalize w12.drew = w13 at BK170 BK172 HB hHeld ⊢
     refine pq_ 0 17 (bL 33 1) HT_.out rfl rfl ?_
     refine take_ (i := 1) (N := some 18) (v := ?_) (a' := ?_) (bL 33 3) rfl rfl (take_ofW HT_.out HW_.out (by kernel_rfl)) (fun _ _ _ h => h) (Or.inl ⟨by rfl, ?_⟩) hHeld ?_ ?_; rotate_left; (rintro w' ⟨s0, s1⟩; go_simp; with_reducible rfl); rotate_left; (exact put_q)
     refine one_ (i := 2) (N := some 19) (bL 33 7) rfl rfl (one_of HT_.out (by kernel_rfl)) (by decide) (fun K hK => ?_)
     refine goes_ Try.func67 (by kernel_rfl) rfl #[.int .i64 ((rd_T63 l0_5 x3_1).f0), .int .i64 1, .int .i64 6] (by rfl) rfl rfl mp_q ?_
     with_reducible refine (spec_l01In.calls ((rd_T63 l0_5 x3_1).f0) 1 6 t173 _ A5.out).mono ?_
     rintro e w' ⟨rfl, ⟨nd, rfl⟩⟩
     refine ⟨_, rfl, ?_⟩
     refine hK.out _ _ ⟨(blk_cell BK172.out 0).trans rfl, (blk_cell BK172.out 1).trans rfl⟩ (fun hHeld => ?_)
     clear hK K
     refine norm_ (a' := ?_) ?_ ?_; rotate_left; (show Act.put _ (some 19) _ = _; simp only [Act.put, List.setIfInBounds_toArray, List.set_cons_zero, List.set_cons_succ, i64_w, i32_w]; rfl)
     refine pq_ 3 20 (bL 33 15) HT_.out rfl rfl ?_
     refine pq_ 4 21 (bL 33 31) HT_.out rfl rfl ?_
     have H := HZ28.out; clear HZ28
     by_cases c6 : t173 = true
     ·subst c6
      replace H : (if ((rd_T63 l0_5 x3_1).f0) = a0_2 then (some false) else ((spec_l01In.f ((rd_T63 l0_5 x3_1).f1) 1 1000).bind fun t174 => (if t174 = true then (if x3_1 > 0 then (if 0 ≤ (wrap64 (x3_1 - 1)) then (if (wrap64 (x3_1 - 1)) < (l0_5.length : Int) then (if ((rd_T63 l0_5 (wrap64 (x3_1 - 1))).f0) ≥ ((rd_T63 l0_5 x3_1).f0) then (some false) else (spec_l04Near.l0 k1 (wrap64 (x3_1 + 1)) a0_0 a0_1 a0_2 a0_3 a0_4 l0_5 a0_6 a0_7)) else (none)) else (none)) else (spec_l04Near.l0 k1 (wrap64 (x3_1 + 1)) a0_0 a0_1 a0_2 a0_3 a0_4 l0_5 a0_6 a0_7)) else (some false)))) = some r := by rw [if_pos rfl] at H; exact H
      have HZ29 := Aside0.mk H; clear H
      refine last_weaken (fun w' => w'.cell? ⟨gb172, 0, none⟩ = some (.int .i64 ((rd_T63 l0_5 x3_1).f0)) ∧ w'.cell? ⟨gb172, 1, none⟩ = some (.int .i64 ((rd_T63 l0_5 x3_1).f1)) ∧ w'.cell? ⟨gb170, 0, none⟩ = some (.int .i64 a0_0) ∧ w'.cell? ⟨gb170, 1, none⟩ = some (.int .i64 a0_1) ∧ w'.cell? ⟨gb170, 2, none⟩ = some (.int .i64 a0_2) ∧ w'.cell? ⟨gb170, 3, none⟩ = some (.int .i64 a0_3) ∧ w'.cell? ⟨gb170, 4, none⟩ = some (.int .i64 a0_4) ∧ w'.cell? ⟨gb170, 5, none⟩ = some (.slice (some ad171) l0_5.length c0_5) ∧ w'.cell? ⟨gb170, 6, none⟩ = some (.int .i64 a0_6) ∧ w'.cell? ⟨gb170, 7, none⟩ = some (.bool a0_7)) (fun w' h_ => ⟨h_.1, h_.2.1⟩) ⟨hHeld.1, hHeld.2, (by first | assumption | exact (blk_cell BK170.out 0).trans rfl), (by first | assumption | exact (blk_cell BK170.out 1).trans rfl), (by first | assumption | exact (blk_cell BK170.out 2).trans rfl), (by first | assumption | exact (blk_cell BK170.out 3).trans rfl), (by first | assumption | exact (blk_cell BK170.out 4).trans rfl), (by first | assumption | exact (blk_cell BK170.out 5).trans rfl), (by first | assumption | exact (blk_cell BK170.out 6).trans rfl), (by first | assumption | exact (blk_cell BK170.out 7).trans rfl)⟩ (fun hHeld => ?_)
      refine pq_ 5 22 (bL 33 63) HT_.out rfl rfl ?_
      refine pq_ 7 24 (bL 33 191) HT_.out rfl rfl ?_
      refine take_ (i := 6) (N := some 23) (v := ?_) (a' := ?_) (bL 33 255) rfl rfl (take_ofW HT_.out HW_.out (by kernel_rfl)) (fun _ _ _ h => h) (Or.inl ⟨by rfl, ?_⟩) hHeld ?_ ?_; rotate_left; (rintro w' ⟨s0, s1, s2, s3, s4, s5, s6, s7, s8, s9⟩; go_simp; with_reducible rfl); rotate_left; (exact put_q)
      refine take_ (i := 8) (N := some 25) (v := ?_) (a' := ?_) (bL 33 511) rfl rfl (take_ofW HT_.out HW_.out (by kernel_rfl)) (fun _ _ _ h => h) (Or.inl ⟨by rfl, ?_⟩) hHeld ?_ ?_; rotate_left; (rintro w' ⟨s0, s1, s2, s3, s4, s5, s6, s7, s8, s9⟩; go_simp; with_reducible rfl); rotate_left; (exact put_q)
      refine pq_ 9 26 (bL 33 1023) HT_.out rfl rfl ?_
      refine pq_ 10 27 (bL 33 2047) HT_.out rfl rfl ?_
      refine pq_ 11 28 (bL 33 4095) HT_.out rfl rfl ?_
      have H := HZ29.out; clear HZ29
      by_cases c7 : ((rd_T63 l0_5 x3_1).f0) = a0_2
      ·rw [if_pos c7] at H
       have c7b0 : (((rd_T63 l0_5 x3_1).f0) == a0_2) = true := beq_iff_eq.mpr c7
       have c7b1 : (((rd_T63 l0_5 x3_1).f0) != a0_2) = false := bne_eq_false_iff_eq.mpr c7
       (first | rw [c7b0] | rw [c7b1] | (simp only [i64_w, i32_w]; first | rw [c7b0] | rw [c7b1]) | skip)
       clear c7; obtain rfl := Option.some.inj H
       refine pu_ 12 29 (bL 33 8191) HT_.out rfl rfl ?_
       refine pu_ 13 30 (bL 33 16383) HT_.out rfl rfl ?_
       refine pu_ 14 31 (bL 33 32767) HT_.out rfl rfl ?_
       refine pu_ 15 32 (bL 33 65535) HT_.out rfl rfl ?_
       refine pq_ 16 33 (bL 33 131071) HT_.out rfl rfl ?_
       refine pq_ 17 34 (bL 33 262143) HT_.out rfl rfl ?_
       refine pu_ 18 35 (bL 33 524287) HT_.out rfl rfl ?_
       refine pu_ 19 36 (bL 33 1048575) HT_.out rfl rfl ?_
       refine pu_ 20 37 (bL 33 2097151) HT_.out rfl rfl ?_
       refine pu_ 21 38 (bL 33 4194303) HT_.out rfl rfl ?_
       refine pu_ 22 39 (bL 33 8388607) HT_.out rfl rfl ?_
       refine pu_ 23 40 (bL 33 16777215) HT_.out rfl rfl ?_
       refine pu_ 24 41 (bL 33 33554431) HT_.out rfl rfl ?_
       refine pu_ 25 42 (bL 33 67108863) HT_.out rfl rfl ?_
       refine pu_ 26 43 (bL 33 134217727) HT_.out rfl rfl ?_
       refine pu_ 27 44 (bL 33 268435455) HT_.out rfl rfl ?_
       refine pu_ 28 45 (bL 33 536870911) HT_.out rfl rfl ?_
       refine pu_ 29 46 (bL 33 1073741823) HT_.out rfl rfl ?_
       refine pu_ 30 47 (bL 33 2147483647) HT_.out rfl rfl ?_
       refine pu_ 31 48 (bL 33 4294967295) HT_.out rfl rfl ?_
       refine pq_ 32 49 (bL 33 8589934591) HT_.out rfl rfl ?_
       refine done_ (done_of HT_.out (by kernel_rfl)) ?_
       try go_wp2
       go_ret
       exact ⟨er_q, bw_q HB⟩
      ·rw [if_neg c7] at H
       have c7b0 : (((rd_T63 l0_5 x3_1).f0) == a0_2) = false := beq_eq_false_iff_ne.mpr c7
       have c7b1 : (((rd_T63 l0_5 x3_1).f0) != a0_2) = true := bne_iff_ne.mpr c7
       (first | rw [c7b0] | rw [c7b1] | (simp only [i64_w, i32_w]; first | rw [c7b0] | rw [c7b1]) | skip)
       replace H := Option.bind_eq_some_iff.mp H; obtain ⟨t174, A140, H⟩ := H
       replace H : (if t174 = true then (if x3_1 > 0 then (if 0 ≤ (wrap64 (x3_1 - 1)) then (if (wrap64 (x3_1 - 1)) < (l0_5.length : Int) then (if ((rd_T63 l0_5 (wrap64 (x3_1 - 1))).f0) ≥ ((rd_T63 l0_5 x3_1).f0) then (some false) else (spec_l04Near.l0 k1 (wrap64 (x3_1 + 1)) a0_0 a0_1 a0_2 a0_3 a0_4 l0_5 a0_6 a0_7)) else (none)) else (none)) else (spec_l04Near.l0 k1 (wrap64 (x3_1 + 1)) a0_0 a0_1 a0_2 a0_3 a0_4 l0_5 a0_6 a0_7)) else (some false)) = some r := H
       have A14 := Aside0.mk A140; clear A140; have HZ30 := Aside0.mk H; clear H
       refine pq_ 12 29 (bL 33 8191) HT_.out rfl rfl ?_
       refine take_ (i := 13) (N := some 30) (v := ?_) (a' := ?_) (bL 33 16383) rfl rfl (take_ofW HT_.out HW_.out (by kernel_rfl)) (fun _ _ _ h => h) (Or.inl ⟨by rfl, ?_⟩) hHeld ?_ ?_; rotate_left; (rintro w' ⟨s0, s1, s2, s3, s4, s5, s6, s7, s8, s9⟩; go_simp; with_reducible rfl); rotate_left; (exact put_q)
       refine one_ (i := 14) (N := some 31) (bL 33 32767) rfl rfl (one_of HT_.out (by kernel_rfl)) (by decide) (fun K hK => ?_)
       refine goes_ Try.func67 (by kernel_rfl) rfl #[.int .i64 ((rd_T63 l0_5 x3_1).f1), .int .i64 1, .int .i64 1000] (by rfl) rfl rfl mp_q ?_
       with_reducible refine (spec_l01In.calls ((rd_T63 l0_5 x3_1).f1) 1 1000 t174 _ A14.out).mono ?_
       rintro e w' ⟨rfl, ⟨nd, rfl⟩⟩
       refine ⟨_, rfl, ?_⟩
       refine hK.out _ _ ⟨(blk_cell BK172.out 0).trans rfl, (blk_cell BK172.out 1).trans rfl, (blk_cell BK170.out 0).trans rfl, (blk_cell BK170.out 1).trans rfl, (blk_cell BK170.out 2).trans rfl, (blk_cell BK170.out 3).trans rfl, (blk_cell BK170.out 4).trans rfl, (blk_cell BK170.out 5).trans rfl, (blk_cell BK170.out 6).trans rfl, (blk_cell BK170.out 7).trans rfl⟩ (fun hHeld => ?_)
       clear hK K
       refine norm_ (a' := ?_) ?_ ?_; rotate_left; (show Act.put _ (some 31) _ = _; simp only [Act.put, List.setIfInBounds_toArray, List.set_cons_zero, List.set_cons_succ, i64_w, i32_w]; rfl)
       refine pq_ 15 32 (bL 33 65535) HT_.out rfl rfl ?_
       refine pq_ 16 33 (bL 33 131071) HT_.out rfl rfl ?_
       refine pq_ 17 34 (bL 33 262143) HT_.out rfl rfl ?_
       have H := HZ30.out; clear HZ30
       by_cases c15 : t174 = true
       ·subst c15
        replace H : (if x3_1 > 0 then (if 0 ≤ (wrap64 (x3_1 - 1)) then (if (wrap64 (x3_1 - 1)) < (l0_5.length : Int) then (if ((rd_T63 l0_5 (wrap64 (x3_1 - 1))).f0) ≥ ((rd_T63 l0_5 x3_1).f0) then (some false) else (spec_l04Near.l0 k1 (wrap64 (x3_1 + 1)) a0_0 a0_1 a0_2 a0_3 a0_4 l0_5 a0_6 a0_7)) else (none)) else (none)) else (spec_l04Near.l0 k1 (wrap64 (x3_1 + 1)) a0_0 a0_1 a0_2 a0_3 a0_4 l0_5 a0_6 a0_7)) = some r := by rw [if_pos rfl] at H; exact H
        have HZ31 := Aside0.mk H; clear H
        refine pq_ 18 35 (bL 33 524287) HT_.out rfl rfl ?_
        refine pq_ 19 36 (bL 33 1048575) HT_.out rfl rfl ?_
        refine pq_ 20 37 (bL 33 2097151) HT_.out rfl rfl ?_
        have H := HZ31.out; clear HZ31
        by_cases c16 : x3_1 > 0
        ·rw [if_pos c16] at H
         have c16b0 : decide (0 < x3_1) = true := decide_eq_true c16
         (first | rw [c16b0] | (simp only [i64_w, i32_w]; first | rw [c16b0]) | skip)
         clear c16; obtain ⟨ji17, hji17⟩ : ∃ j_ : Int, (wrap64 (x3_1 - 1)) = j_ := ⟨_, rfl⟩
         replace H : (if 0 ≤ (ji17) then (if (ji17) < (l0_5.length : Int) then (if ((rd_T63 l0_5 (ji17)).f0) ≥ ((rd_T63 l0_5 x3_1).f0) then (some false) else (spec_l04Near.l0 k1 (wrap64 (x3_1 + 1)) a0_0 a0_1 a0_2 a0_3 a0_4 l0_5 a0_6 a0_7)) else (none)) else (none)) = some r := by first | (rw [hji17] at H; exact H) | (simp only [hji17] at H ⊢; exact H)
         (try rw [hji17] at A5)
         (try rw [hji17] at A14)
         have hji17w : (IntKind.i64.wrap (x3_1 - 1)) = ji17 := (i64_w _).trans hji17
         by_cases c18 : 0 ≤ (ji17)
         ·rw [if_pos c18] at H
          have c18b0 : decide (0 ≤ (ji17)) = true := decide_eq_true c18
          clear c18
          by_cases c19 : (ji17) < (l0_5.length : Int)
          ·rw [if_pos c19] at H
           have c19b0 : decide ((ji17) < (l0_5.length : Int)) = true := decide_eq_true c19
           clear c19; have HZ32 := Aside0.mk H; clear H
           have p175 : 0 ≤ ((ji17) : Int) := of_decide_eq_true as_q
           have q175 : (ji17) < (l0_5.length : Int) := of_decide_eq_true as_q
           obtain ⟨ad175, e175, hx175_0, hx175_1⟩ := at_T63 HR0_5.out (ji17) p175 q175; have hw175_1 := hx175_1; have hw175_0 := hx175_0
           obtain rfl : ad171 = ad175 := (by injection e175)
           replace hx175_0 := (HB.out.cell (World.block_lt_of_cell? w _ hx175_0)).trans hx175_0
           replace hx175_1 := (HB.out.cell (World.block_lt_of_cell? w _ hx175_1)).trans hx175_1
           replace p175 := eq_true p175; replace q175 := eq_true q175
           refine last_weaken (fun w' => w'.cell? ⟨gb172, 0, none⟩ = some (.int .i64 ((rd_T63 l0_5 x3_1).f0)) ∧ w'.cell? ⟨gb172, 1, none⟩ = some (.int .i64 ((rd_T63 l0_5 x3_1).f1)) ∧ w'.cell? ⟨gb170, 0, none⟩ = some (.int .i64 a0_0) ∧ w'.cell? ⟨gb170, 1, none⟩ = some (.int .i64 a0_1) ∧ w'.cell? ⟨gb170, 2, none⟩ = some (.int .i64 a0_2) ∧ w'.cell? ⟨gb170, 3, none⟩ = some (.int .i64 a0_3) ∧ w'.cell? ⟨gb170, 4, none⟩ = some (.int .i64 a0_4) ∧ w'.cell? ⟨gb170, 5, none⟩ = some (.slice (some ad171) l0_5.length c0_5) ∧ w'.cell? ⟨gb170, 6, none⟩ = some (.int .i64 a0_6) ∧ w'.cell? ⟨gb170, 7, none⟩ = some (.bool a0_7) ∧ w'.cell? (ad171.add (((ji17)).toNat * 2)) = some (.int .i64 ((rd_T63 l0_5 (ji17)).f0)) ∧ w'.cell? ⟨(ad171.add (((ji17)).toNat * 2)).block, (ad171.add (((ji17)).toNat * 2)).off + 1, none⟩ = some (.int .i64 ((rd_T63 l0_5 (ji17)).f1))) (fun w' h_ => ⟨h_.1, h_.2.1, h_.2.2.1, h_.2.2.2.1, h_.2.2.2.2.1, h_.2.2.2.2.2.1, h_.2.2.2.2.2.2.1, h_.2.2.2.2.2.2.2.1, h_.2.2.2.2.2.2.2.2.1, h_.2.2.2.2.2.2.2.2.2.1⟩) ⟨hHeld.1, hHeld.2.1, hHeld.2.2.1, hHeld.2.2.2.1, hHeld.2.2.2.2.1, hHeld.2.2.2.2.2.1, hHeld.2.2.2.2.2.2.1, hHeld.2.2.2.2.2.2.2.1, hHeld.2.2.2.2.2.2.2.2.1, hHeld.2.2.2.2.2.2.2.2.2, (by first | assumption | exact ((HB.out.cell (World.block_lt_of_cell? w _ hw175_0)).trans hw175_0)), (by first | assumption | exact ((HB.out.cell (World.block_lt_of_cell? w _ hw175_1)).trans hw175_1))⟩ (fun hHeld => ?_)
           refine pq_ 21 38 (bL 33 4194303) HT_.out rfl rfl ?_
           refine pq_ 23 40 (bL 33 12582911) HT_.out rfl rfl ?_
           refine pq_ 24 41 (bL 33 29360127) HT_.out rfl rfl ?_
           refine pq_ 28 45 (bL 33 297795583) HT_.out rfl rfl ?_
           refine take_ (i := 22) (N := some 39) (v := ?_) (a' := ?_) (bL 33 301989887) rfl rfl (take_ofW HT_.out HW_.out (by kernel_rfl)) (fun _ _ _ h => h) (Or.inl ⟨by rfl, ?_⟩) hHeld ?_ ?_; rotate_left; (rintro w' ⟨s0, s1, s2, s3, s4, s5, s6, s7, s8, s9, s10, s11⟩; go_simp; with_reducible rfl); rotate_left; (exact put_q)
           refine pq_ 25 42 (bL 33 335544319) HT_.out rfl rfl ?_
           refine pq_ 26 43 (bL 33 402653183) HT_.out rfl rfl ?_
           refine take_ (i := 27) (N := some 44) (v := ?_) (a' := ?_) (bL 33 536870911) rfl rfl (take_ofW HT_.out HW_.out (by kernel_rfl)) (fun _ _ _ h => h) (Or.inl ⟨by rfl, ?_⟩) hHeld ?_ ?_; rotate_left; (rintro w' ⟨s0, s1, s2, s3, s4, s5, s6, s7, s8, s9, s10, s11⟩; go_simp; with_reducible rfl); rotate_left; (exact put_q)
           refine take_ (i := 29) (N := some 46) (v := ?_) (a' := ?_) (bL 33 1073741823) rfl rfl (take_ofW HT_.out HW_.out (by kernel_rfl)) (fun _ _ _ h => h) (Or.inl ⟨by rfl, ?_⟩) hHeld ?_ ?_; rotate_left; (rintro w' ⟨s0, s1, s2, s3, s4, s5, s6, s7, s8, s9, s10, s11⟩; go_simp; with_reducible rfl); rotate_left; (exact put_q)
           refine pq_ 30 47 (bL 33 2147483647) HT_.out rfl rfl ?_
           refine pq_ 31 48 (bL 33 4294967295) HT_.out rfl rfl ?_
           refine pq_ 32 49 (bL 33 8589934591) HT_.out rfl rfl ?_
           have H := HZ32.out; clear HZ32
           by_cases c20 : ((rd_T63 l0_5 (ji17)).f0) ≥ ((rd_T63 l0_5 x3_1).f0)
           ·rw [if_pos c20] at H
            have c20b0 : decide (((rd_T63 l0_5 x3_1).f0) ≤ ((rd_T63 l0_5 (ji17)).f0)) = true := decide_eq_true c20
            (first | rw [c20b0] | (simp only [i64_w, i32_w]; first | rw [c20b0]) | skip)
            clear c20; obtain rfl := Option.some.inj H
            refine done_ (done_of HT_.out (by kernel_rfl)) ?_
            try go_wp2
            go_ret
            exact ⟨by first | rfl | (simp [errW_none, errW_some] <;> rfl) | (simp only [← hji17]; first | rfl | (simp [errW_none, errW_some] <;> rfl)) | (simp [*, errW_none, errW_some] <;> rfl), bw_q HB⟩
           ·rw [if_neg c20] at H
            have c20b0 : decide (((rd_T63 l0_5 x3_1).f0) ≤ ((rd_T63 l0_5 (ji17)).f0)) = false := decide_eq_false c20
            (first | rw [c20b0] | (simp only [i64_w, i32_w]; first | rw [c20b0]) | skip)
            clear c20; have H' := Aside0.mk H; clear H
            refine done_ (done_of HT_.out (by kernel_rfl)) ?_
            try go_wp2
            go_roundg k1
            case measure => have := HK1.out; omega
            case rel => exact ⟨(wrap64 (x3_1 + 1)), (by first | rfl | (simp; done) | (simp [*]; done)), H', ⟨by have := HK1.out; omega⟩, ⟨by refine bz_ ?_; exact BK170.out⟩, ⟨bw_q HB⟩⟩
          ·rw [if_neg c19] at H
           exact absurd H (by simp)
         ·rw [if_neg c18] at H
          exact absurd H (by simp)
        ·rw [if_neg c16] at H
         have c16b0 : decide (0 < x3_1) = false := decide_eq_false c16
         (first | rw [c16b0] | (simp only [i64_w, i32_w]; first | rw [c16b0]) | skip)
         clear c16; have H' := Aside0.mk H; clear H
         refine pu_ 21 38 (bL 33 4194303) HT_.out rfl rfl ?_
         refine pu_ 22 39 (bL 33 8388607) HT_.out rfl rfl ?_
         refine pu_ 23 40 (bL 33 16777215) HT_.out rfl rfl ?_
         refine pu_ 24 41 (bL 33 33554431) HT_.out rfl rfl ?_
         refine pu_ 25 42 (bL 33 67108863) HT_.out rfl rfl ?_
         refine pu_ 26 43 (bL 33 134217727) HT_.out rfl rfl ?_
         refine pu_ 27 44 (bL 33 268435455) HT_.out rfl rfl ?_
         refine pu_ 28 45 (bL 33 536870911) HT_.out rfl rfl ?_
         refine pu_ 29 46 (bL 33 1073741823) HT_.out rfl rfl ?_
         refine pu_ 30 47 (bL 33 2147483647) HT_.out rfl rfl ?_
         refine pq_ 31 48 (bL 33 4294967295) HT_.out rfl rfl ?_
         refine pq_ 32 49 (bL 33 8589934591) HT_.out rfl rfl ?_
         refine done_ (done_of HT_.out (by kernel_rfl)) ?_
         try go_wp2
         go_roundg k1
         case measure => have := HK1.out; omega
         case rel => exact ⟨(wrap64 (x3_1 + 1)), (by first | rfl | (simp; done) | (simp [*]; done)), H', ⟨by have := HK1.out; omega⟩, ⟨by refine bz_ ?_; exact BK170.out⟩, ⟨bw_q HB⟩⟩
       ·replace c15 := Bool.eq_false_iff.mpr c15; subst c15
        replace H : (some false) = some r := by rw [if_neg (show ¬ (false = true) by decide)] at H; exact H
        obtain rfl := Option.some.inj H
        refine pu_ 18 35 (bL 33 524287) HT_.out rfl rfl ?_
        refine pu_ 19 36 (bL 33 1048575) HT_.out rfl rfl ?_
        refine pu_ 20 37 (bL 33 2097151) HT_.out rfl rfl ?_
        refine pu_ 21 38 (bL 33 4194303) HT_.out rfl rfl ?_
        refine pu_ 22 39 (bL 33 8388607) HT_.out rfl rfl ?_
        refine pu_ 23 40 (bL 33 16777215) HT_.out rfl rfl ?_
        refine pu_ 24 41 (bL 33 33554431) HT_.out rfl rfl ?_
        refine pu_ 25 42 (bL 33 67108863) HT_.out rfl rfl ?_
        refine pu_ 26 43 (bL 33 134217727) HT_.out rfl rfl ?_
        refine pu_ 27 44 (bL 33 268435455) HT_.out rfl rfl ?_
        refine pu_ 28 45 (bL 33 536870911) HT_.out rfl rfl ?_
        refine pu_ 29 46 (bL 33 1073741823) HT_.out rfl rfl ?_
        refine pu_ 30 47 (bL 33 2147483647) HT_.out rfl rfl ?_
        refine pu_ 31 48 (bL 33 4294967295) HT_.out rfl rfl ?_
        refine pq_ 32 49 (bL 33 8589934591) HT_.out rfl rfl ?_
        refine done_ (done_of HT_.out (by kernel_rfl)) ?_
        try go_wp2
        go_ret
        exact ⟨er_q, bw_q HB⟩
     ·replace c6 := Bool.eq_false_iff.mpr c6; subst c6
      replace H : (some false) = some r := by rw [if_neg (show ¬ (false = true) by decide)] at H; exact H
      obtain rfl := Option.some.inj H
      refine pu_ 5 22 (bL 33 63) HT_.out rfl rfl ?_
      refine pu_ 6 23 (bL 33 127) HT_.out rfl rfl ?_
      refine pu_ 7 24 (bL 33 255) HT_.out rfl rfl ?_
      refine pu_ 8 25 (bL 33 511) HT_.out rfl rfl ?_
      refine pu_ 9 26 (bL 33 1023) HT_.out rfl rfl ?_
      refine pq_ 10 27 (bL 33 2047) HT_.out rfl rfl ?_
      refine pq_ 11 28 (bL 33 4095) HT_.out rfl rfl ?_
      refine pu_ 12 29 (bL 33 8191) HT_.out rfl rfl ?_
      refine pu_ 13 30 (bL 33 16383) HT_.out rfl rfl ?_
      refine pu_ 14 31 (bL 33 32767) HT_.out rfl rfl ?_
      refine pu_ 15 32 (bL 33 65535) HT_.out rfl rfl ?_
      refine pq_ 16 33 (bL 33 131071) HT_.out rfl rfl ?_
      refine pq_ 17 34 (bL 33 262143) HT_.out rfl rfl ?_
      refine pu_ 18 35 (bL 33 524287) HT_.out rfl rfl ?_
      refine pu_ 19 36 (bL 33 1048575) HT_.out rfl rfl ?_
      refine pu_ 20 37 (bL 33 2097151) HT_.out rfl rfl ?_
      refine pu_ 21 38 (bL 33 4194303) HT_.out rfl rfl ?_
      refine pu_ 22 39 (bL 33 8388607) HT_.out rfl rfl ?_
      refine pu_ 23 40 (bL 33 16777215) HT_.out rfl rfl ?_
      refine pu_ 24 41 (bL 33 33554431) HT_.out rfl rfl ?_
      refine pu_ 25 42 (bL 33 67108863) HT_.out rfl rfl ?_
      refine pu_ 26 43 (bL 33 134217727) HT_.out rfl rfl ?_
      refine pu_ 27 44 (bL 33 268435455) HT_.out rfl rfl ?_
      refine pu_ 28 45 (bL 33 536870911) HT_.out rfl rfl ?_
      refine pu_ 29 46 (bL 33 1073741823) HT_.out rfl rfl ?_
      refine pu_ 30 47 (bL 33 2147483647) HT_.out rfl rfl ?_
      refine pu_ 31 48 (bL 33 4294967295) HT_.out rfl rfl ?_
      refine pq_ 32 49 (bL 33 8589934591) HT_.out rfl rfl ?_
      refine done_ (done_of HT_.out (by kernel_rfl)) ?_
      try go_wp2
      go_ret
      exact ⟨er_q, bw_q HB⟩
    ·rw [if_neg c4] at H
     exact absurd H (by simp)
   ·rw [if_neg c3] at H
    have c3b0 : decide (x3_1 < (l0_5.length : Int)) = false := decide_eq_false c3
    clear c3; obtain rfl := Option.some.inj H; obtain ⟨hcz51_0, hcz51_1, hcz51_2, hcz51_3, hcz51_4, hcz51_5, hcz51_6, hcz51_7⟩ := cz8_ BK170; obtain ⟨hfz51_0, hfz51_1, hfz51_2, hfz51_3, hfz51_4, hfz51_5, hfz51_6, hfz51_7⟩ := fz8_ BK170
    go_wp2
    go_ret
    exact ⟨er_q, bw_q HB⟩

end Go.Proofs.Ytnecbkognpponaa.Q
