import Derived.Test.YthjmdiggglkeaaaXInstallQlawstoNearS
import Derived.Test.YthjmdiggglkeaaaXInstallQspecl04CopyList
import Derived.Test.YthjmdiggglkeaaaXInstallQspecl05At
import Derived.Test.YthjmdiggglkeaaaXInstallQspecl05Put
/- A Go function as a Lean function, and its contract: for every input the Go code comes to what the Lean function tells. -/




namespace Go.Proofs.Ythjmdiggglkeaaa.Q
open Go.RowKit Go.Proofs.YthjmdiggglkeaaaW.PrintWords Go.Proofs.YthjmdiggglkeaaaW.PrintLast Go.Proofs.YthjmdiggglkeaaaW.PrintMore
attribute [local go_sem] max2_int min2_int max_two min_two max_three min_three max_four min_four   -- for this text's walks alone
set_option linter.unusedVariables false
set_option linter.unusedSimpArgs false

/-! ### spec_l05Install: function 93 -/
def spec_l05Install.f (k : Nat) (l0 : List (S61)) (a1_0 : Int) (a1_1 : Int) (a1_2 : Int) (a1_3 : Int) (a1_4 : Int) (l1_5 : List (S127)) (a1_6 : Int) (a1_7 : Bool) : Option ((List (S61)) × Bool) := (spec_l05At.f k l0 a1_0 a1_1 a1_2 a1_3 a1_4 l1_5 a1_6 a1_7).bind fun t504 => ((spec_RecordOk.f k a1_0 a1_1 a1_2 a1_3 a1_4 l1_5 a1_6 a1_7).bind fun t505 => (if t505 = true then (if t504 ≥ 0 then (if 0 ≤ t504 then (if t504 < (l0.length : Int) then (if ((rd_T61 l0 t504).f4) ≥ a1_4 then (some (l0, false)) else (if t504 < 0 then (if (l0.length : Int) ≥ 150 then (some (l0, false)) else ((spec_l05Put.f k l0 a1_0 a1_1 a1_2 a1_3 a1_4 l1_5 a1_6 a1_7).bind fun t507 => (some (t507, true)))) else ((spec_l05Put.f k l0 a1_0 a1_1 a1_2 a1_3 a1_4 l1_5 a1_6 a1_7).bind fun t510 => (some (t510, true))))) else (none)) else (none)) else (if t504 < 0 then (if (l0.length : Int) ≥ 150 then (some (l0, false)) else ((spec_l05Put.f k l0 a1_0 a1_1 a1_2 a1_3 a1_4 l1_5 a1_6 a1_7).bind fun t513 => (some (t513, true)))) else ((spec_l05Put.f k l0 a1_0 a1_1 a1_2 a1_3 a1_4 l1_5 a1_6 a1_7).bind fun t516 => (some (t516, true))))) else (some (l0, false))))
theorem spec_l05Install.mono : ∀ a0 a1 a2 a3 a4 a5 a6 a7 a8 k, LeO (spec_l05Install.f k a0 a1 a2 a3 a4 a5 a6 a7 a8) (spec_l05Install.f (k + 1) a0 a1 a2 a3 a4 a5 a6 a7 a8) := by
 intro a0 a1 a2 a3 a4 a5 a6 a7 a8 k
 unfold spec_l05Install.f
 repeat' first
   | (with_reducible exact spec_RecordOk.mono _ _ _ _ _ _ _ _ _)
   | (with_reducible exact spec_l05At.mono _ _ _ _ _ _ _ _ _ _)
   | (with_reducible exact spec_l05Put.mono _ _ _ _ _ _ _ _ _ _)
   | (with_reducible exact LeO.refl _)
   | (with_reducible exact LeO.none _)
   | (with_reducible refine LeO.ite ?_ ?_)
   | (with_reducible refine LeO.bind ?_ (fun _ => ?_))
   | exact spec_RecordOk.mono _ _ _ _ _ _ _ _ _
   | exact spec_l05At.mono _ _ _ _ _ _ _ _ _ _
   | exact spec_l05Put.mono _ _ _ _ _ _ _ _ _ _
   | exact LeO.none _
   | refine LeO.ite ?_ ?_
   | refine LeO.bind ?_ (fun _ => ?_)
def spec_l05Install.T2 : Bool × List (List Nat × List Nat) := (true, [([], []), ([0], [0]), ([1], [1]), ([2, 1], [2]), ([3], [3]), ([4, 3], [3, 4]), ([5, 3, 3], [3, 5]), ([6], [6]), ([6], [6]), ([7, 8, 6], [6, 7, 8]), ([9, 6], [6, 9]), ([10, 6], [6, 10]), ([6], [6]), ([12, 6], [6, 12]), ([11, 13, 6], [6, 11, 13]), ([6, 14, 3], [3, 6, 14]), ([3, 15], [3, 15]), ([16, 6], [16]), ([17], [17]), ([18, 17], [17, 18]), ([19, 17, 17], [17, 19]), ([20], [20]), ([21, 20], [20, 21]), ([22, 20], [20, 22]), ([20, 23, 17], [17, 20, 23]), ([17, 24], [17, 24])])
def spec_l05Install.B2 : List Nat := [0, 1, 3, 7, 15, 31, 63, 127, 127, 511, 1023, 2047, 127, 4223, 16383, 32767, 65535, 131071, 262143, 524287, 1048575, 2097151, 4194303, 8388607, 16777215, 33554431]
theorem spec_l05Install.tab2 : rtab .any (opsOf Try.f93 2) = spec_l05Install.T2 := by kernel_rfl
theorem spec_l05Install.bits2 : waitsOk spec_l05Install.T2.2 spec_l05Install.B2 = true := by kernel_rfl
set_option maxHeartbeats 8000000 in
set_option maxRecDepth 100000 in
theorem spec_l05Install.calls (k : Nat) (P0_ : Nat → Prop) (A0 : Option Addr) (c0 : Nat) (l0 : List (S61)) (a1_0 : Int) (a1_1 : Int) (a1_2 : Int) (a1_3 : Int) (a1_4 : Int) (P1_5_ : Nat → Prop) (A1_5 : Option Addr) (c1_5 : Nat) (l1_5 : List (S127)) (a1_6 : Int) (a1_7 : Bool) (r1 : List (S61)) (r2 : Bool) (w : World) (hs0 : Kd.V k61 61 w w.heap.size (fun k_ => P0_ k_) (.slice A0 l0.length c0) l0) (hs1_5 : Kd.V k127 127 w w.heap.size (fun k_ => P1_5_ k_) (.slice A1_5 l1_5.length c1_5) l1_5) (h : spec_l05Install.f k l0 a1_0 a1_1 a1_2 a1_3 a1_4 l1_5 a1_6 a1_7 = some (r1, r2)) :
  Calls Try.prog 93 #[.slice A0 l0.length c0, .agg #[.int .i64 a1_0, .int .i64 a1_1, .int .i64 a1_2, .int .i64 a1_3, .int .i64 a1_4, .slice A1_5 l1_5.length c1_5, .int .i64 a1_6, .bool a1_7]] w fun e w' => ∃ v0_ : Value, e = .returned (.tuple #[v0_, .bool r2]) ∧ Kd.V k61 61 w' w.heap.size (fun k_ => ((P0_ k_ ∨ P1_5_ k_) ∨ w.heap.size ≤ k_)) v0_ r1 ∧ Below w.heap.size w w' := by
 have hu61 := Try.underlying61
 have HO0 := Aside0.mk (show Kd.V k61 61 w w.heap.size (fun k_ => ((P0_ k_ ∨ P1_5_ k_) ∨ w.heap.size ≤ k_)) (.slice A0 l0.length c0) l0 from Kd.V_mono hs0 (fun k_ hk => .inl (.inl hk)))
 have HO1_5 := Aside0.mk (show Kd.V k127 127 w w.heap.size (fun k_ => ((P0_ k_ ∨ P1_5_ k_) ∨ w.heap.size ≤ k_)) (.slice A1_5 l1_5.length c1_5) l1_5 from Kd.V_mono hs1_5 (fun k_ hk => .inl (.inr hk)))
 have HB := Aside0.mk (Below.refl w.heap.size w)
 have H : ((spec_l05At.f k l0 a1_0 a1_1 a1_2 a1_3 a1_4 l1_5 a1_6 a1_7).bind fun t504 => ((spec_RecordOk.f k a1_0 a1_1 a1_2 a1_3 a1_4 l1_5 a1_6 a1_7).bind fun t505 => (if t505 = true then (if t504 ≥ 0 then (if 0 ≤ t504 then (if t504 < (l0.length : Int) then (if ((rd_T61 l0 t504).f4) ≥ a1_4 then (some (l0, false)) else (if t504 < 0 then (if (l0.length : Int) ≥ 150 then (some (l0, false)) else ((spec_l05Put.f k l0 a1_0 a1_1 a1_2 a1_3 a1_4 l1_5 a1_6 a1_7).bind fun t507 => (some (t507, true)))) else ((spec_l05Put.f k l0 a1_0 a1_1 a1_2 a1_3 a1_4 l1_5 a1_6 a1_7).bind fun t510 => (some (t510, true))))) else (none)) else (none)) else (if t504 < 0 then (if (l0.length : Int) ≥ 150 then (some (l0, false)) else ((spec_l05Put.f k l0 a1_0 a1_1 a1_2 a1_3 a1_4 l1_5 a1_6 a1_7).bind fun t513 => (some (t513, true)))) else ((spec_l05Put.f k l0 a1_0 a1_1 a1_2 a1_3 a1_4 l1_5 a1_6 a1_7).bind fun t516 => (some (t516, true))))) else (some (l0, false))))) = some (r1, r2) := h
 clear h
 replace H := Option.bind_eq_some_iff.mp H
 obtain ⟨t504, A30, H⟩ := H
 replace H : ((spec_RecordOk.f k a1_0 a1_1 a1_2 a1_3 a1_4 l1_5 a1_6 a1_7).bind fun t505 => (if t505 = true then (if t504 ≥ 0 then (if 0 ≤ t504 then (if t504 < (l0.length : Int) then (if ((rd_T61 l0 t504).f4) ≥ a1_4 then (some (l0, false)) else (if t504 < 0 then (if (l0.length : Int) ≥ 150 then (some (l0, false)) else ((spec_l05Put.f k l0 a1_0 a1_1 a1_2 a1_3 a1_4 l1_5 a1_6 a1_7).bind fun t507 => (some (t507, true)))) else ((spec_l05Put.f k l0 a1_0 a1_1 a1_2 a1_3 a1_4 l1_5 a1_6 a1_7).bind fun t510 => (some (t510, true))))) else (none)) else (none)) else (if t504 < 0 then (if (l0.length : Int) ≥ 150 then (some (l0, false)) else ((spec_l05Put.f k l0 a1_0 a1_1 a1_2 a1_3 a1_4 l1_5 a1_6 a1_7).bind fun t513 => (some (t513, true)))) else ((spec_l05Put.f k l0 a1_0 a1_1 a1_2 a1_3 a1_4 l1_5 a1_6 a1_7).bind fun t516 => (some (t516, true))))) else (some (l0, false)))) = some (r1, r2) := H
 have A3 := Aside0.mk A30
 clear A30
 replace H := Option.bind_eq_some_iff.mp H
 obtain ⟨t505, A40, H⟩ := H
 replace H : (if t505 = true then (if t504 ≥ 0 then (if 0 ≤ t504 then (if t504 < (l0.length : Int) then (if ((rd_T61 l0 t504).f4) ≥ a1_4 then (some (l0, false)) else (if t504 < 0 then (if (l0.length : Int) ≥ 150 then (some (l0, false)) else ((spec_l05Put.f k l0 a1_0 a1_1 a1_2 a1_3 a1_4 l1_5 a1_6 a1_7).bind fun t507 => (some (t507, true)))) else ((spec_l05Put.f k l0 a1_0 a1_1 a1_2 a1_3 a1_4 l1_5 a1_6 a1_7).bind fun t510 => (some (t510, true))))) else (none)) else (none)) else (if t504 < 0 then (if (l0.length : Int) ≥ 150 then (some (l0, false)) else ((spec_l05Put.f k l0 a1_0 a1_1 a1_2 a1_3 a1_4 l1_5 a1_6 a1_7).bind fun t513 => (some (t513, true)))) else ((spec_l05Put.f k l0 a1_0 a1_1 a1_2 a1_3 a1_4 l1_5 a1_6 a1_7).bind fun t516 => (some (t516, true))))) else (some (l0, false))) = some (r1, r2) := H
 have A4 := Aside0.mk A40
 clear A40
 by_cases c5 : t505 = true
 ·subst c5
  have H1 : (if t504 ≥ 0 then (if 0 ≤ t504 then (if t504 < (l0.length : Int) then (if ((rd_T61 l0 t504).f4) ≥ a1_4 then (some (l0, false)) else (if t504 < 0 then (if (l0.length : Int) ≥ 150 then (some (l0, false)) else ((spec_l05Put.f k l0 a1_0 a1_1 a1_2 a1_3 a1_4 l1_5 a1_6 a1_7).bind fun t507 => (some (t507, true)))) else ((spec_l05Put.f k l0 a1_0 a1_1 a1_2 a1_3 a1_4 l1_5 a1_6 a1_7).bind fun t510 => (some (t510, true))))) else (none)) else (none)) else (if t504 < 0 then (if (l0.length : Int) ≥ 150 then (some (l0, false)) else ((spec_l05Put.f k l0 a1_0 a1_1 a1_2 a1_3 a1_4 l1_5 a1_6 a1_7).bind fun t513 => (some (t513, true)))) else ((spec_l05Put.f k l0 a1_0 a1_1 a1_2 a1_3 a1_4 l1_5 a1_6 a1_7).bind fun t516 => (some (t516, true))))) = some (r1, r2) := by rw [if_pos rfl] at H; exact H
  clear H
  have H := H1
  clear H1
  by_cases c6 : t504 ≥ 0
  ·rw [if_pos c6] at H
   have c6b0 : decide (0 ≤ t504) = true := decide_eq_true c6
   clear c6
   by_cases c7 : 0 ≤ t504
   ·rw [if_pos c7] at H
    have c7b0 : decide (0 ≤ t504) = true := decide_eq_true c7
    clear c7
    by_cases c8 : t504 < (l0.length : Int)
    ·rw [if_pos c8] at H
     have c8b0 : decide (t504 < (l0.length : Int)) = true := decide_eq_true c8
     clear c8
     have HZ49 := Aside0.mk H
     clear H
     go_enter Try.func93, Try.ntmps93
     try go_wp2_with (first | ((with_reducible refine gate_dst (N := 3) rfl ?_); (try (refine gate_guard (by rfl) ?_; dsimp only)); refine box_q 3 #[.int .i64 a1_0, .int .i64 a1_1, .int .i64 a1_2, .int .i64 a1_3, .int .i64 a1_4, .slice A1_5 l1_5.length c1_5, .int .i64 a1_6, .bool a1_7] 61 ?_; intro gb503 hg w10 hbox hb; replace HO0 := Aside0.mk (Kd.V_below (Kd.V_elderB (kV_q HO0) gb503 (Nat.le_of_eq hg.symm)) hb); replace HO1_5 := Aside0.mk (Kd.V_below (Kd.V_elderB (kV_q HO1_5) gb503 (Nat.le_of_eq hg.symm)) hb); have BK503 := Aside0.mk (hbox); have GW503 := Aside0.mk ((by rw [hg]; exact (below_size (bw_q HB)) : w.heap.size ≤ gb503)); have GE503 := Aside0.mk ((by rw [hg]; exact (below_size (bw_q HB)) : w.heap.size ≤ gb503)); replace HB := Aside0.mk (below_step (bw_q HB) hb); clear hb hbox hg; have hcz11_0 : w10.cell? ⟨gb503, 0, none⟩ = some (.int .i64 a1_0) := (blk_cell BK503.out 0).trans rfl; have hcz11_1 : w10.cell? ⟨gb503, 1, none⟩ = some (.int .i64 a1_1) := (blk_cell BK503.out 1).trans rfl; have hcz11_2 : w10.cell? ⟨gb503, 2, none⟩ = some (.int .i64 a1_2) := (blk_cell BK503.out 2).trans rfl; have hcz11_3 : w10.cell? ⟨gb503, 3, none⟩ = some (.int .i64 a1_3) := (blk_cell BK503.out 3).trans rfl; have hcz11_4 : w10.cell? ⟨gb503, 4, none⟩ = some (.int .i64 a1_4) := (blk_cell BK503.out 4).trans rfl; have hcz11_5 : w10.cell? ⟨gb503, 5, none⟩ = some (.slice A1_5 l1_5.length c1_5) := (blk_cell BK503.out 5).trans rfl; have hcz11_6 : w10.cell? ⟨gb503, 6, none⟩ = some (.int .i64 a1_6) := (blk_cell BK503.out 6).trans rfl; have hcz11_7 : w10.cell? ⟨gb503, 7, none⟩ = some (.bool a1_7) := (blk_cell BK503.out 7).trans rfl; have hfz11_0 := blk_frozen BK503.out 0; have hfz11_1 := blk_frozen BK503.out 1; have hfz11_2 := blk_frozen BK503.out 2; have hfz11_3 := blk_frozen BK503.out 3; have hfz11_4 := blk_frozen BK503.out 4; have hfz11_5 := blk_frozen BK503.out 5; have hfz11_6 := blk_frozen BK503.out 6; have hfz11_7 := blk_frozen BK503.out 7) | ((with_reducible refine gate_callee (f := 105) rfl ?_); refine goesL_ (some 9) rfl rfl Try.func105 (by kernel_rfl) rfl #[.slice A0 l0.length c0, .agg #[.int .i64 a1_0, .int .i64 a1_1, .int .i64 a1_2, .int .i64 a1_3, .int .i64 a1_4, .slice A1_5 l1_5.length c1_5, .int .i64 a1_6, .bool a1_7]] rfl mp_q ?_; (with_reducible refine (spec_l05At.calls k _ _ l0 a1_0 a1_1 a1_2 a1_3 a1_4 _ _ l1_5 a1_6 a1_7 t504 _ ?side1 ?side2 ?side3 ?side4 A3.out).mono ?_); (case side1 => repeat (first | exact (Kd.V_reads' HO0.out).2.2 | (with_reducible refine Kd.C_alloc ?_ _) | (with_reducible refine Kd.C_drewN ?_ _) | (with_reducible refine Kd.C_drew ?_))); (case side2 => exact (Kd.V_reads' HO0.out).2.1); (case side3 => repeat (first | exact (Kd.V_reads' HO1_5.out).2.2 | (with_reducible refine Kd.C_alloc ?_ _) | (with_reducible refine Kd.C_drewN ?_ _) | (with_reducible refine Kd.C_drew ?_))); (case side4 => exact (Kd.V_reads' HO1_5.out).2.1); rintro e w12 ⟨rfl, hb⟩; refine ⟨_, rfl, ?_⟩; replace HO0 := Aside0.mk (Kd.V_below (kV_q HO0) hb); replace HO1_5 := Aside0.mk (Kd.V_below (kV_q HO1_5) hb); replace BK503 := Aside0.mk (blk_below (g := gb503) (bk_q BK503) hb); replace HB := Aside0.mk (below_step (bw_q HB) hb); (try clear hb); (try clear hb2); (try clear hk); (try clear hi)))
     replace HO0 := Aside0.mk (Kd.V_drew HO0.out)
     replace HO1_5 := Aside0.mk (Kd.V_drew HO1_5.out)
     replace BK503 := Aside0.mk (blk_drew BK503.out)
     replace HB := Aside0.mk (below_drew1 HB.out)
     have p506 : 0 ≤ (t504 : Int) := of_decide_eq_true as_q
     have q506 : t504 < (l0.length : Int) := of_decide_eq_true as_q
     obtain ⟨ad506, A506_5, c506_5, e506, hx506_0, hx506_1, hx506_2, hx506_3, hx506_4, hx506_5, hx506_6, hx506_7, hl506_5, hi506_5⟩ := at_T61 (Kd.V_reads' HO0.out).2.2 t504 p506 q506
     cases e506
     obtain ⟨ce506, hce506, hMe506, hcc506⟩ := Kd.V_get HO0.out z61 t504 p506 (by first | exact q506 | exact of_decide_eq_true as_q | (have e_ := (Kd.V_reads' HO0.out).1; omega))
     obtain ⟨ua506_5, uc506_5, rfl, ul506_5, ge506_5⟩ := k61_openF hMe506
     have hv506_5 := hcc506 5 _ rfl
     rw [add_field _ _ 5 (by omega)] at hv506_5
     replace hv506_5 := Option.some.inj (hv506_5.symm.trans hx506_5)
     injection hv506_5 with hva_ hvn_ hvc_
     rw [hva_] at ge506_5
     rw [hvc_] at ul506_5
     have HL506_5 := Aside0.mk (show Kd.V k127 127 _ w.heap.size _ _ ((rd_T61 l0 t504).f5) from Kd.V_mk ul506_5 ge506_5)
     clear hva_ hvn_ hvc_ ge506_5 ul506_5
     clear hcc506 hce506
     have HR506_5 := Aside0.mk hi506_5
     have HC506_5 := Aside0.mk hl506_5
     clear hi506_5 hl506_5
     replace p506 := eq_true p506
     replace q506 := eq_true q506
     refine start_ (n := 26) (S := fun w' => w'.cell? ⟨gb503, 0, none⟩ = some (.int .i64 a1_0) ∧ w'.cell? ⟨gb503, 1, none⟩ = some (.int .i64 a1_1) ∧ w'.cell? ⟨gb503, 2, none⟩ = some (.int .i64 a1_2) ∧ w'.cell? ⟨gb503, 3, none⟩ = some (.int .i64 a1_3) ∧ w'.cell? ⟨gb503, 4, none⟩ = some (.int .i64 a1_4) ∧ w'.cell? ⟨gb503, 5, none⟩ = some (.slice A1_5 l1_5.length c1_5) ∧ w'.cell? ⟨gb503, 6, none⟩ = some (.int .i64 a1_6) ∧ w'.cell? ⟨gb503, 7, none⟩ = some (.bool a1_7) ∧ w'.cell? (ad506.add ((t504).toNat * 8)) = some (.int .i64 ((rd_T61 l0 t504).f0)) ∧ w'.cell? ⟨(ad506.add ((t504).toNat * 8)).block, (ad506.add ((t504).toNat * 8)).off + 1, none⟩ = some (.int .i64 ((rd_T61 l0 t504).f1)) ∧ w'.cell? ⟨(ad506.add ((t504).toNat * 8)).block, (ad506.add ((t504).toNat * 8)).off + 2, none⟩ = some (.int .i64 ((rd_T61 l0 t504).f2)) ∧ w'.cell? ⟨(ad506.add ((t504).toNat * 8)).block, (ad506.add ((t504).toNat * 8)).off + 3, none⟩ = some (.int .i64 ((rd_T61 l0 t504).f3)) ∧ w'.cell? ⟨(ad506.add ((t504).toNat * 8)).block, (ad506.add ((t504).toNat * 8)).off + 4, none⟩ = some (.int .i64 ((rd_T61 l0 t504).f4)) ∧ w'.cell? ⟨(ad506.add ((t504).toNat * 8)).block, (ad506.add ((t504).toNat * 8)).off + 5, none⟩ = some (.slice A506_5 ((rd_T61 l0 t504).f5).length c506_5) ∧ w'.cell? ⟨(ad506.add ((t504).toNat * 8)).block, (ad506.add ((t504).toNat * 8)).off + 6, none⟩ = some (.int .i64 ((rd_T61 l0 t504).f6)) ∧ w'.cell? ⟨(ad506.add ((t504).toNat * 8)).block, (ad506.add ((t504).toNat * 8)).off + 7, none⟩ = some (.bool ((rd_T61 l0 t504).f7))) (ds := []) (bL 26 0) (by kernel_rfl) rfl rfl ⟨(blk_cell BK503.out 0).trans rfl, (blk_cell BK503.out 1).trans rfl, (blk_cell BK503.out 2).trans rfl, (blk_cell BK503.out 3).trans rfl, (blk_cell BK503.out 4).trans rfl, (blk_cell BK503.out 5).trans rfl, (blk_cell BK503.out 6).trans rfl, (blk_cell BK503.out 7).trans rfl, hx506_0, hx506_1, hx506_2, hx506_3, hx506_4, hx506_5, hx506_6, hx506_7⟩ (fun hHeld => ?_); refine with_tabW spec_l05Install.tab2 spec_l05Install.bits2 (fun HT_ HW_ => ?_)
     generalize w12.drew = w13 at HO0 HO1_5 BK503 HB HL506_5 HR506_5 hx506_0 hx506_1 hx506_2 hx506_3 hx506_4 hx506_5 hx506_6 hx506_7 hHeld ⊢
     refine take_ (i := 0) (N := some 10) (v := ?_) (a' := ?_) (bL 26 1) rfl rfl (take_ofW HT_.out HW_.out (by kernel_rfl)) (fun _ _ _ h => h) (Or.inl ⟨by rfl, ?_⟩) hHeld ?_ ?_; rotate_left; (rintro w' ⟨s0, s1, s2, s3, s4, s5, s6, s7, s8, s9, s10, s11, s12, s13, s14, s15⟩; go_simp; with_reducible rfl); rotate_left; (exact put_q)
     refine one_ (i := 1) (N := some 11) (bL 26 3) rfl rfl (one_of HT_.out (by kernel_rfl)) (by decide) (fun K hK => ?_)
     refine goes_ Try.func131 (by kernel_rfl) rfl #[.agg #[.int .i64 a1_0, .int .i64 a1_1, .int .i64 a1_2, .int .i64 a1_3, .int .i64 a1_4, .slice A1_5 l1_5.length c1_5, .int .i64 a1_6, .bool a1_7]] (by rfl) rfl rfl mp_q ?_
     with_reducible refine (spec_RecordOk.calls k a1_0 a1_1 a1_2 a1_3 a1_4 _ _ l1_5 a1_6 a1_7 true _ ?side1 ?side2 A4.out).mono ?_
     (case side1 => repeat (first | exact (Kd.V_reads' HO1_5.out).2.2 | (with_reducible refine Kd.C_alloc ?_ _) | (with_reducible refine Kd.C_drewN ?_ _) | (with_reducible refine Kd.C_drew ?_)))
     (case side2 => exact (Kd.V_reads' HO1_5.out).2.1)
     rintro e w14 ⟨rfl, hb⟩
     have HS8_ := (hb.cell (World.block_lt_of_cell? _ _ (hHeld.2.2.2.2.2.2.2.2.1))).trans (hHeld.2.2.2.2.2.2.2.2.1)
     have HS9_ := (hb.cell (World.block_lt_of_cell? _ _ (hHeld.2.2.2.2.2.2.2.2.2.1))).trans (hHeld.2.2.2.2.2.2.2.2.2.1)
     have HS10_ := (hb.cell (World.block_lt_of_cell? _ _ (hHeld.2.2.2.2.2.2.2.2.2.2.1))).trans (hHeld.2.2.2.2.2.2.2.2.2.2.1)
     have HS11_ := (hb.cell (World.block_lt_of_cell? _ _ (hHeld.2.2.2.2.2.2.2.2.2.2.2.1))).trans (hHeld.2.2.2.2.2.2.2.2.2.2.2.1)
     have HS12_ := (hb.cell (World.block_lt_of_cell? _ _ (hHeld.2.2.2.2.2.2.2.2.2.2.2.2.1))).trans (hHeld.2.2.2.2.2.2.2.2.2.2.2.2.1)
     have HS13_ := (hb.cell (World.block_lt_of_cell? _ _ (hHeld.2.2.2.2.2.2.2.2.2.2.2.2.2.1))).trans (hHeld.2.2.2.2.2.2.2.2.2.2.2.2.2.1)
     have HS14_ := (hb.cell (World.block_lt_of_cell? _ _ (hHeld.2.2.2.2.2.2.2.2.2.2.2.2.2.2.1))).trans (hHeld.2.2.2.2.2.2.2.2.2.2.2.2.2.2.1)
     have HS15_ := (hb.cell (World.block_lt_of_cell? _ _ (hHeld.2.2.2.2.2.2.2.2.2.2.2.2.2.2.2))).trans (hHeld.2.2.2.2.2.2.2.2.2.2.2.2.2.2.2)
     refine ⟨_, rfl, ?_⟩
     replace HO0 := Aside0.mk (Kd.V_below (kV_q HO0) hb)
     replace HO1_5 := Aside0.mk (Kd.V_below (kV_q HO1_5) hb)
     replace BK503 := Aside0.mk (blk_below (g := gb503) (bk_q BK503) hb)
     replace HB := Aside0.mk (below_step (bw_q HB) hb)
     (try clear hb)
     (try clear hb2)
     (try clear hk)
     (try clear hi)
     refine hK.out _ _ ⟨(blk_cell BK503.out 0).trans rfl, (blk_cell BK503.out 1).trans rfl, (blk_cell BK503.out 2).trans rfl, (blk_cell BK503.out 3).trans rfl, (blk_cell BK503.out 4).trans rfl, (blk_cell BK503.out 5).trans rfl, (blk_cell BK503.out 6).trans rfl, (blk_cell BK503.out 7).trans rfl, HS8_, HS9_, HS10_, HS11_, HS12_, HS13_, HS14_, HS15_⟩ (fun hHeld => ?_)
     clear hK K
     refine norm_ (a' := ?_) ?_ ?_; rotate_left; (show Act.put _ (some 11) _ = _; simp only [Act.put, List.setIfInBounds_toArray, List.set_cons_zero, List.set_cons_succ, i64_w, i32_w]; rfl)
     refine pq_ 2 12 (bL 26 7) HT_.out rfl rfl ?_
     refine pq_ 3 13 (bL 26 15) HT_.out rfl rfl ?_
     refine pq_ 4 14 (bL 26 31) HT_.out rfl rfl ?_
     refine pq_ 5 15 (bL 26 63) HT_.out rfl rfl ?_
     refine pq_ 6 16 (bL 26 127) HT_.out rfl rfl ?_
     refine pq_ 7 17 (bL 26 255) HT_.out rfl rfl ?_
     refine pq_ 8 18 (bL 26 511) HT_.out rfl rfl ?_
     refine pq_ 9 19 (bL 26 1023) HT_.out rfl rfl ?_
     refine pq_ 10 20 (bL 26 2047) HT_.out rfl rfl ?_
     refine pq_ 12 22 (bL 26 6143) HT_.out rfl rfl ?_
     refine take_ (i := 11) (N := some 21) (v := ?_) (a' := ?_) (bL 26 8191) rfl rfl (take_ofW HT_.out HW_.out (by kernel_rfl)) (fun _ _ _ h => h) (Or.inl ⟨by rfl, ?_⟩) hHeld ?_ ?_; rotate_left; (rintro w' ⟨s0, s1, s2, s3, s4, s5, s6, s7, s8, s9, s10, s11, s12, s13, s14, s15⟩; go_simp; with_reducible rfl); rotate_left; (exact put_q)
     refine take_ (i := 13) (N := some 23) (v := ?_) (a' := ?_) (bL 26 16383) rfl rfl (take_ofW HT_.out HW_.out (by kernel_rfl)) (fun _ _ _ h => h) (Or.inl ⟨by rfl, ?_⟩) hHeld ?_ ?_; rotate_left; (rintro w' ⟨s0, s1, s2, s3, s4, s5, s6, s7, s8, s9, s10, s11, s12, s13, s14, s15⟩; go_simp; with_reducible rfl); rotate_left; (exact put_q)
     refine pq_ 14 24 (bL 26 32767) HT_.out rfl rfl ?_
     refine pq_ 15 25 (bL 26 65535) HT_.out rfl rfl ?_
     refine pq_ 16 26 (bL 26 131071) HT_.out rfl rfl ?_
     refine pq_ 17 27 (bL 26 262143) HT_.out rfl rfl ?_
     have H := HZ49.out
     clear HZ49
     by_cases c9 : ((rd_T61 l0 t504).f4) ≥ a1_4
     ·rw [if_pos c9] at H
      have c9b0 : decide (a1_4 ≤ ((rd_T61 l0 t504).f4)) = true := decide_eq_true c9
      (first | rw [c9b0] | (simp only [i64_w, i32_w]; first | rw [c9b0]) | skip)
      clear c9
      simp only [Option.some.injEq, Prod.mk.injEq] at H
      obtain ⟨rfl, rfl⟩ := H
      refine pu_ 18 28 (bL 26 524287) HT_.out rfl rfl ?_
      refine pu_ 19 29 (bL 26 1048575) HT_.out rfl rfl ?_
      refine pu_ 20 30 (bL 26 2097151) HT_.out rfl rfl ?_
      refine pu_ 21 31 (bL 26 4194303) HT_.out rfl rfl ?_
      refine pu_ 22 32 (bL 26 8388607) HT_.out rfl rfl ?_
      refine pu_ 23 33 (bL 26 16777215) HT_.out rfl rfl ?_
      refine pu_ 24 34 (bL 26 33554431) HT_.out rfl rfl ?_
      refine pq_ 25 35 (bL 26 67108863) HT_.out rfl rfl ?_
      refine done_ (done_of HT_.out (by kernel_rfl)) ?_
      try go_wp2
      go_ret2
      exact ⟨_, er_q, by (with_reducible repeat (first | apply Kd.V_alloc | apply Kd.V_drewN | apply Kd.V_drew)); exact Kd.V_mono HO0.out (fun _ hk => hk.1), bw_q HB⟩
     ·rw [if_neg c9] at H
      have c9b0 : decide (a1_4 ≤ ((rd_T61 l0 t504).f4)) = false := decide_eq_false c9
      (first | rw [c9b0] | (simp only [i64_w, i32_w]; first | rw [c9b0]) | skip)
      clear c9
      have HZ50 := Aside0.mk H
      clear H
      refine pq_ 18 28 (bL 26 524287) HT_.out rfl rfl ?_
      refine pq_ 19 29 (bL 26 1048575) HT_.out rfl rfl ?_
      refine pq_ 20 30 (bL 26 2097151) HT_.out rfl rfl ?_
      have H := HZ50.out
      clear HZ50
      by_cases c15 : t504 < 0
      ·rw [if_pos c15] at H
       have c15b0 : decide (t504 < 0) = true := decide_eq_true c15
       (first | rw [c15b0] | (simp only [i64_w, i32_w]; first | rw [c15b0]) | skip)
       clear c15
       have HZ51 := Aside0.mk H
       clear H
       refine pq_ 21 31 (bL 26 4194303) HT_.out rfl rfl ?_
       refine pq_ 22 32 (bL 26 8388607) HT_.out rfl rfl ?_
       refine pq_ 23 33 (bL 26 16777215) HT_.out rfl rfl ?_
       refine pq_ 24 34 (bL 26 33554431) HT_.out rfl rfl ?_
       refine pq_ 25 35 (bL 26 67108863) HT_.out rfl rfl ?_
       have H := HZ51.out
       clear HZ51
       by_cases c16 : (l0.length : Int) ≥ 150
       ·rw [if_pos c16] at H
        have c16b0 : decide (150 ≤ (l0.length : Int)) = true := decide_eq_true c16
        have c16b1 : decide (150 ≤ l0.length) = true := decide_eq_true (by omega)
        (first | rw [c16b0] | rw [c16b1] | (simp only [i64_w, i32_w]; first | rw [c16b0] | rw [c16b1]) | skip)
        clear c16
        simp only [Option.some.injEq, Prod.mk.injEq] at H
        obtain ⟨rfl, rfl⟩ := H
        refine done_ (done_of HT_.out (by kernel_rfl)) ?_
        try go_wp2
        go_ret2
        exact ⟨_, er_q, by (with_reducible repeat (first | apply Kd.V_alloc | apply Kd.V_drewN | apply Kd.V_drew)); exact Kd.V_mono HO0.out (fun _ hk => hk.1), bw_q HB⟩
       ·rw [if_neg c16] at H
        have c16b0 : decide (150 ≤ (l0.length : Int)) = false := decide_eq_false c16
        have c16b1 : decide (150 ≤ l0.length) = false := decide_eq_false (by omega)
        (first | rw [c16b0] | rw [c16b1] | (simp only [i64_w, i32_w]; first | rw [c16b0] | rw [c16b1]) | skip)
        clear c16
        replace H := Option.bind_eq_some_iff.mp H
        obtain ⟨t507, A220, H⟩ := H
        replace H : (some (t507, true)) = some (r1, r2) := H
        have A22 := Aside0.mk A220
        clear A220
        simp only [Option.some.injEq, Prod.mk.injEq] at H
        obtain ⟨rfl, rfl⟩ := H
        refine done_ (done_of HT_.out (by kernel_rfl)) ?_
        obtain ⟨hcz28_0, hcz28_1, hcz28_2, hcz28_3, hcz28_4, hcz28_5, hcz28_6, hcz28_7⟩ := cz8_ BK503
        obtain ⟨hfz28_0, hfz28_1, hfz28_2, hfz28_3, hfz28_4, hfz28_5, hfz28_6, hfz28_7⟩ := fz8_ BK503
        try go_wp2_with (first | ((with_reducible refine gate_callee (f := 132) rfl ?_); refine goesL_ (some 39) rfl rfl Try.func132 (by kernel_rfl) rfl #[.slice (some ad506) l0.length c0, .agg #[.int .i64 a1_0, .int .i64 a1_1, .int .i64 a1_2, .int .i64 a1_3, .int .i64 a1_4, .slice A1_5 l1_5.length c1_5, .int .i64 a1_6, .bool a1_7]] rfl mp_q ?_; (with_reducible refine (spec_l05Put.calls k (fun k_ => (((P0_ k_ ∨ P1_5_ k_) ∨ w.heap.size ≤ k_) ∧ k_ ≠ gb503)) _ _ l0 a1_0 a1_1 a1_2 a1_3 a1_4 (fun k_ => (((P0_ k_ ∨ P1_5_ k_) ∨ w.heap.size ≤ k_) ∧ k_ ≠ gb503)) _ _ l1_5 a1_6 a1_7 t507 _ ?side1 ?side2 A22.out).mono ?_); (case side1 => exact HO0.out); (case side2 => exact HO1_5.out); rintro e w29 ⟨v508, rfl, ho0, hb⟩; refine ⟨_, rfl, ?_⟩; have n0_ := Aside0.mk (Kd.V_elder' (kV_q HO0) (Kd.N_base ho0) hb); have n1_ := Aside0.mk (Kd.V_elder' (kV_q HO1_5) (Kd.N_base ho0) hb); (first | have n2_ := Aside0.mk (Kd.V_elder' (kV_q HL506_5) (Kd.N_base ho0) hb) | have n2_ := trivial); have n3_ := Aside0.mk (Kd.N_lower (Kd.N_mono (ok' := fun k_ => ((P0_ k_ ∨ P1_5_ k_) ∨ w.heap.size ≤ k_) ∧ k_ ≠ gb503) ho0 (fun k_ hk_ => ⟨Or.elim hk_ (fun hs_ => Or.elim hs_ (fun hs_ => hs_.1) (fun hs_ => hs_.1)) (fun hn_ => (.inr (Nat.le_trans (below_size (bw_q HB)) hn_))), Or.elim hk_ (fun hs_ => Or.elim hs_ (fun hs_ => hs_.2) (fun hs_ => hs_.2)) (fun hn_ => (Kd.freshB (g := gb503) (o := .cells #[.int .i64 a1_0, .int .i64 a1_1, .int .i64 a1_2, .int .i64 a1_3, .int .i64 a1_4, .slice A1_5 l1_5.length c1_5, .int .i64 a1_6, .bool a1_7] 61 (0, 0)) (bk_q BK503) k_ hn_))⟩)) (below_size (bw_q HB))); have n4_ := Aside0.mk (blk_below (g := gb503) (bk_q BK503) hb); (first | have n5_ := Aside0.mk (Kd.C_below (by repeat (first | (with_reducible exact HR506_5.out) | (with_reducible refine Kd.C_alloc ?_ _) | (with_reducible refine Kd.C_drewN ?_ _) | (with_reducible refine Kd.C_drew ?_) | exact HR506_5.out)) hb) | have n5_ := trivial); have n6_ := Aside0.mk (below_step (bw_q HB) hb); clear HO0; clear HO1_5; clear HL506_5; clear BK503; clear HR506_5; clear HB; have HO0 := n0_; have HO1_5 := n1_; have HL506_5 := n2_; have HO509 := n3_; have BK503 := n4_; have HR506_5 := n5_; have HB := n6_; clear n0_ n1_ n2_ n3_ n4_ n5_ n6_; (try clear hb); (try clear hb2); (try clear hk); (try clear hi); (try clear ho0)))
        go_ret2
        exact ⟨_, er_q, Kd.N_V (by (with_reducible repeat (first | apply Kd.N_alloc | apply Kd.N_drewN | apply Kd.N_drew)); exact Kd.N_mono HO509.out (fun _ hk => hk.1)), bw_q HB⟩
      ·rw [if_neg c15] at H
       have c15b0 : decide (t504 < 0) = false := decide_eq_false c15
       (first | rw [c15b0] | (simp only [i64_w, i32_w]; first | rw [c15b0]) | skip)
       clear c15
       replace H := Option.bind_eq_some_iff.mp H
       obtain ⟨t510, A300, H⟩ := H
       replace H : (some (t510, true)) = some (r1, r2) := H
       have A30 := Aside0.mk A300
       clear A300
       simp only [Option.some.injEq, Prod.mk.injEq] at H
       obtain ⟨rfl, rfl⟩ := H
       refine pu_ 21 31 (bL 26 4194303) HT_.out rfl rfl ?_
       refine pu_ 22 32 (bL 26 8388607) HT_.out rfl rfl ?_
       refine pu_ 23 33 (bL 26 16777215) HT_.out rfl rfl ?_
       refine pq_ 24 34 (bL 26 33554431) HT_.out rfl rfl ?_
       refine pq_ 25 35 (bL 26 67108863) HT_.out rfl rfl ?_
       refine done_ (done_of HT_.out (by kernel_rfl)) ?_
       obtain ⟨hcz36_0, hcz36_1, hcz36_2, hcz36_3, hcz36_4, hcz36_5, hcz36_6, hcz36_7⟩ := cz8_ BK503
       obtain ⟨hfz36_0, hfz36_1, hfz36_2, hfz36_3, hfz36_4, hfz36_5, hfz36_6, hfz36_7⟩ := fz8_ BK503
       try go_wp2_with (first | ((with_reducible refine gate_callee (f := 132) rfl ?_); refine goesL_ (some 39) rfl rfl Try.func132 (by kernel_rfl) rfl #[.slice (some ad506) l0.length c0, .agg #[.int .i64 a1_0, .int .i64 a1_1, .int .i64 a1_2, .int .i64 a1_3, .int .i64 a1_4, .slice A1_5 l1_5.length c1_5, .int .i64 a1_6, .bool a1_7]] rfl mp_q ?_; (with_reducible refine (spec_l05Put.calls k (fun k_ => (((P0_ k_ ∨ P1_5_ k_) ∨ w.heap.size ≤ k_) ∧ k_ ≠ gb503)) _ _ l0 a1_0 a1_1 a1_2 a1_3 a1_4 (fun k_ => (((P0_ k_ ∨ P1_5_ k_) ∨ w.heap.size ≤ k_) ∧ k_ ≠ gb503)) _ _ l1_5 a1_6 a1_7 t510 _ ?side1 ?side2 A30.out).mono ?_); (case side1 => exact HO0.out); (case side2 => exact HO1_5.out); rintro e w37 ⟨v511, rfl, ho0, hb⟩; refine ⟨_, rfl, ?_⟩; have n0_ := Aside0.mk (Kd.V_elder' (kV_q HO0) (Kd.N_base ho0) hb); have n1_ := Aside0.mk (Kd.V_elder' (kV_q HO1_5) (Kd.N_base ho0) hb); (first | have n2_ := Aside0.mk (Kd.V_elder' (kV_q HL506_5) (Kd.N_base ho0) hb) | have n2_ := trivial); have n3_ := Aside0.mk (Kd.N_lower (Kd.N_mono (ok' := fun k_ => ((P0_ k_ ∨ P1_5_ k_) ∨ w.heap.size ≤ k_) ∧ k_ ≠ gb503) ho0 (fun k_ hk_ => ⟨Or.elim hk_ (fun hs_ => Or.elim hs_ (fun hs_ => hs_.1) (fun hs_ => hs_.1)) (fun hn_ => (.inr (Nat.le_trans (below_size (bw_q HB)) hn_))), Or.elim hk_ (fun hs_ => Or.elim hs_ (fun hs_ => hs_.2) (fun hs_ => hs_.2)) (fun hn_ => (Kd.freshB (g := gb503) (o := .cells #[.int .i64 a1_0, .int .i64 a1_1, .int .i64 a1_2, .int .i64 a1_3, .int .i64 a1_4, .slice A1_5 l1_5.length c1_5, .int .i64 a1_6, .bool a1_7] 61 (0, 0)) (bk_q BK503) k_ hn_))⟩)) (below_size (bw_q HB))); have n4_ := Aside0.mk (blk_below (g := gb503) (bk_q BK503) hb); (first | have n5_ := Aside0.mk (Kd.C_below (by repeat (first | (with_reducible exact HR506_5.out) | (with_reducible refine Kd.C_alloc ?_ _) | (with_reducible refine Kd.C_drewN ?_ _) | (with_reducible refine Kd.C_drew ?_) | exact HR506_5.out)) hb) | have n5_ := trivial); have n6_ := Aside0.mk (below_step (bw_q HB) hb); clear HO0; clear HO1_5; clear HL506_5; clear BK503; clear HR506_5; clear HB; have HO0 := n0_; have HO1_5 := n1_; have HL506_5 := n2_; have HO512 := n3_; have BK503 := n4_; have HR506_5 := n5_; have HB := n6_; clear n0_ n1_ n2_ n3_ n4_ n5_ n6_; (try clear hb); (try clear hb2); (try clear hk); (try clear hi); (try clear ho0)))
       go_ret2
       exact ⟨_, er_q, Kd.N_V (by (with_reducible repeat (first | apply Kd.N_alloc | apply Kd.N_drewN | apply Kd.N_drew)); exact Kd.N_mono HO512.out (fun _ hk => hk.1)), bw_q HB⟩
    ·rw [if_neg c8] at H
     exact absurd H (by simp)
   ·rw [if_neg c7] at H
    exact absurd H (by simp)
  ·rw [if_neg c6] at H
   have c6b0 : decide (0 ≤ t504) = false := decide_eq_false c6
   clear c6
   have HZ52 := Aside0.mk H
   clear H
   go_enter Try.func93, Try.ntmps93
   try go_wp2_with (first | ((with_reducible refine gate_dst (N := 3) rfl ?_); (try (refine gate_guard (by rfl) ?_; dsimp only)); refine box_q 3 #[.int .i64 a1_0, .int .i64 a1_1, .int .i64 a1_2, .int .i64 a1_3, .int .i64 a1_4, .slice A1_5 l1_5.length c1_5, .int .i64 a1_6, .bool a1_7] 61 ?_; intro gb503 hg w40 hbox hb; replace HO0 := Aside0.mk (Kd.V_below (Kd.V_elderB (kV_q HO0) gb503 (Nat.le_of_eq hg.symm)) hb); replace HO1_5 := Aside0.mk (Kd.V_below (Kd.V_elderB (kV_q HO1_5) gb503 (Nat.le_of_eq hg.symm)) hb); have BK503 := Aside0.mk (hbox); have GW503 := Aside0.mk ((by rw [hg]; exact (below_size (bw_q HB)) : w.heap.size ≤ gb503)); have GE503 := Aside0.mk ((by rw [hg]; exact (below_size (bw_q HB)) : w.heap.size ≤ gb503)); replace HB := Aside0.mk (below_step (bw_q HB) hb); clear hb hbox hg; have hcz41_0 : w40.cell? ⟨gb503, 0, none⟩ = some (.int .i64 a1_0) := (blk_cell BK503.out 0).trans rfl; have hcz41_1 : w40.cell? ⟨gb503, 1, none⟩ = some (.int .i64 a1_1) := (blk_cell BK503.out 1).trans rfl; have hcz41_2 : w40.cell? ⟨gb503, 2, none⟩ = some (.int .i64 a1_2) := (blk_cell BK503.out 2).trans rfl; have hcz41_3 : w40.cell? ⟨gb503, 3, none⟩ = some (.int .i64 a1_3) := (blk_cell BK503.out 3).trans rfl; have hcz41_4 : w40.cell? ⟨gb503, 4, none⟩ = some (.int .i64 a1_4) := (blk_cell BK503.out 4).trans rfl; have hcz41_5 : w40.cell? ⟨gb503, 5, none⟩ = some (.slice A1_5 l1_5.length c1_5) := (blk_cell BK503.out 5).trans rfl; have hcz41_6 : w40.cell? ⟨gb503, 6, none⟩ = some (.int .i64 a1_6) := (blk_cell BK503.out 6).trans rfl; have hcz41_7 : w40.cell? ⟨gb503, 7, none⟩ = some (.bool a1_7) := (blk_cell BK503.out 7).trans rfl; have hfz41_0 := blk_frozen BK503.out 0; have hfz41_1 := blk_frozen BK503.out 1; have hfz41_2 := blk_frozen BK503.out 2; have hfz41_3 := blk_frozen BK503.out 3; have hfz41_4 := blk_frozen BK503.out 4; have hfz41_5 := blk_frozen BK503.out 5; have hfz41_6 := blk_frozen BK503.out 6; have hfz41_7 := blk_frozen BK503.out 7) | ((with_reducible refine gate_callee (f := 105) rfl ?_); refine goesL_ (some 9) rfl rfl Try.func105 (by kernel_rfl) rfl #[.slice A0 l0.length c0, .agg #[.int .i64 a1_0, .int .i64 a1_1, .int .i64 a1_2, .int .i64 a1_3, .int .i64 a1_4, .slice A1_5 l1_5.length c1_5, .int .i64 a1_6, .bool a1_7]] rfl mp_q ?_; (with_reducible refine (spec_l05At.calls k _ _ l0 a1_0 a1_1 a1_2 a1_3 a1_4 _ _ l1_5 a1_6 a1_7 t504 _ ?side1 ?side2 ?side3 ?side4 A3.out).mono ?_); (case side1 => repeat (first | exact (Kd.V_reads' HO0.out).2.2 | (with_reducible refine Kd.C_alloc ?_ _) | (with_reducible refine Kd.C_drewN ?_ _) | (with_reducible refine Kd.C_drew ?_))); (case side2 => exact (Kd.V_reads' HO0.out).2.1); (case side3 => repeat (first | exact (Kd.V_reads' HO1_5.out).2.2 | (with_reducible refine Kd.C_alloc ?_ _) | (with_reducible refine Kd.C_drewN ?_ _) | (with_reducible refine Kd.C_drew ?_))); (case side4 => exact (Kd.V_reads' HO1_5.out).2.1); rintro e w42 ⟨rfl, hb⟩; refine ⟨_, rfl, ?_⟩; replace HO0 := Aside0.mk (Kd.V_below (kV_q HO0) hb); replace HO1_5 := Aside0.mk (Kd.V_below (kV_q HO1_5) hb); replace BK503 := Aside0.mk (blk_below (g := gb503) (bk_q BK503) hb); replace HB := Aside0.mk (below_step (bw_q HB) hb); (try clear hb); (try clear hb2); (try clear hk); (try clear hi)))
   replace HO0 := Aside0.mk (Kd.V_drew HO0.out)
   replace HO1_5 := Aside0.mk (Kd.V_drew HO1_5.out)
   replace BK503 := Aside0.mk (blk_drew BK503.out)
   replace HB := Aside0.mk (below_drew1 HB.out)
   refine start_ (n := 26) (S := fun w' => w'.cell? ⟨gb503, 0, none⟩ = some (.int .i64 a1_0) ∧ w'.cell? ⟨gb503, 1, none⟩ = some (.int .i64 a1_1) ∧ w'.cell? ⟨gb503, 2, none⟩ = some (.int .i64 a1_2) ∧ w'.cell? ⟨gb503, 3, none⟩ = some (.int .i64 a1_3) ∧ w'.cell? ⟨gb503, 4, none⟩ = some (.int .i64 a1_4) ∧ w'.cell? ⟨gb503, 5, none⟩ = some (.slice A1_5 l1_5.length c1_5) ∧ w'.cell? ⟨gb503, 6, none⟩ = some (.int .i64 a1_6) ∧ w'.cell? ⟨gb503, 7, none⟩ = some (.bool a1_7)) (ds := []) (bL 26 0) (by kernel_rfl) rfl rfl ⟨(blk_cell BK503.out 0).trans rfl, (blk_cell BK503.out 1).trans rfl, (blk_cell BK503.out 2).trans rfl, (blk_cell BK503.out 3).trans rfl, (blk_cell BK503.out 4).trans rfl, (blk_cell BK503.out 5).trans rfl, (blk_cell BK503.out 6).trans rfl, (blk_cell BK503.out 7).trans rfl⟩ (fun hHeld => ?_); refine with_tabW spec_l05Install.tab2 spec_l05Install.bits2 (fun HT_ HW_ => ?_)
   generalize w42.drew = w43 at HO0 HO1_5 BK503 HB hHeld ⊢
   refine take_ (i := 0) (N := some 10) (v := ?_) (a' := ?_) (bL 26 1) rfl rfl (take_ofW HT_.out HW_.out (by kernel_rfl)) (fun _ _ _ h => h) (Or.inl ⟨by rfl, ?_⟩) hHeld ?_ ?_; rotate_left; (rintro w' ⟨s0, s1, s2, s3, s4, s5, s6, s7⟩; go_simp; with_reducible rfl); rotate_left; (exact put_q)
   refine one_ (i := 1) (N := some 11) (bL 26 3) rfl rfl (one_of HT_.out (by kernel_rfl)) (by decide) (fun K hK => ?_)
   refine goes_ Try.func131 (by kernel_rfl) rfl #[.agg #[.int .i64 a1_0, .int .i64 a1_1, .int .i64 a1_2, .int .i64 a1_3, .int .i64 a1_4, .slice A1_5 l1_5.length c1_5, .int .i64 a1_6, .bool a1_7]] (by rfl) rfl rfl mp_q ?_
   with_reducible refine (spec_RecordOk.calls k a1_0 a1_1 a1_2 a1_3 a1_4 _ _ l1_5 a1_6 a1_7 true _ ?side1 ?side2 A4.out).mono ?_
   (case side1 => repeat (first | exact (Kd.V_reads' HO1_5.out).2.2 | (with_reducible refine Kd.C_alloc ?_ _) | (with_reducible refine Kd.C_drewN ?_ _) | (with_reducible refine Kd.C_drew ?_)))
   (case side2 => exact (Kd.V_reads' HO1_5.out).2.1)
   rintro e w44 ⟨rfl, hb⟩
   refine ⟨_, rfl, ?_⟩
   replace HO0 := Aside0.mk (Kd.V_below (kV_q HO0) hb)
   replace HO1_5 := Aside0.mk (Kd.V_below (kV_q HO1_5) hb)
   replace BK503 := Aside0.mk (blk_below (g := gb503) (bk_q BK503) hb)
   replace HB := Aside0.mk (below_step (bw_q HB) hb)
   (try clear hb)
   (try clear hb2)
   (try clear hk)
   (try clear hi)
   refine hK.out _ _ ⟨(blk_cell BK503.out 0).trans rfl, (blk_cell BK503.out 1).trans rfl, (blk_cell BK503.out 2).trans rfl, (blk_cell BK503.out 3).trans rfl, (blk_cell BK503.out 4).trans rfl, (blk_cell BK503.out 5).trans rfl, (blk_cell BK503.out 6).trans rfl, (blk_cell BK503.out 7).trans rfl⟩ (fun hHeld => ?_)
   clear hK K
   refine norm_ (a' := ?_) ?_ ?_; rotate_left; (show Act.put _ (some 11) _ = _; simp only [Act.put, List.setIfInBounds_toArray, List.set_cons_zero, List.set_cons_succ, i64_w, i32_w]; rfl)
   refine pq_ 2 12 (bL 26 7) HT_.out rfl rfl ?_
   refine pq_ 3 13 (bL 26 15) HT_.out rfl rfl ?_
   refine pq_ 4 14 (bL 26 31) HT_.out rfl rfl ?_
   refine pq_ 5 15 (bL 26 63) HT_.out rfl rfl ?_
   refine pq_ 6 16 (bL 26 127) HT_.out rfl rfl ?_
   refine pu_ 7 17 (bL 26 255) HT_.out rfl rfl ?_
   refine pu_ 8 18 (bL 26 511) HT_.out rfl rfl ?_
   refine pu_ 9 19 (bL 26 1023) HT_.out rfl rfl ?_
   refine pu_ 10 20 (bL 26 2047) HT_.out rfl rfl ?_
   refine pu_ 11 21 (bL 26 4095) HT_.out rfl rfl ?_
   refine pu_ 12 22 (bL 26 8191) HT_.out rfl rfl ?_
   refine pu_ 13 23 (bL 26 16383) HT_.out rfl rfl ?_
   refine pu_ 14 24 (bL 26 32767) HT_.out rfl rfl ?_
   refine pq_ 15 25 (bL 26 65535) HT_.out rfl rfl ?_
   refine pq_ 16 26 (bL 26 131071) HT_.out rfl rfl ?_
   refine pq_ 17 27 (bL 26 262143) HT_.out rfl rfl ?_
   refine pq_ 18 28 (bL 26 524287) HT_.out rfl rfl ?_
   refine pq_ 19 29 (bL 26 1048575) HT_.out rfl rfl ?_
   refine pq_ 20 30 (bL 26 2097151) HT_.out rfl rfl ?_
   have H := HZ52.out
   clear HZ52
   by_cases c38 : t504 < 0
   ·rw [if_pos c38] at H
    have c38b0 : decide (t504 < 0) = true := decide_eq_true c38
    (first | rw [c38b0] | (simp only [i64_w, i32_w]; first | rw [c38b0]) | skip)
    clear c38
    have HZ53 := Aside0.mk H
    clear H
    refine pq_ 21 31 (bL 26 4194303) HT_.out rfl rfl ?_
    refine pq_ 22 32 (bL 26 8388607) HT_.out rfl rfl ?_
    refine pq_ 23 33 (bL 26 16777215) HT_.out rfl rfl ?_
    refine pq_ 24 34 (bL 26 33554431) HT_.out rfl rfl ?_
    refine pq_ 25 35 (bL 26 67108863) HT_.out rfl rfl ?_
    have H := HZ53.out
    clear HZ53
    by_cases c39 : (l0.length : Int) ≥ 150
    ·rw [if_pos c39] at H
     have c39b0 : decide (150 ≤ (l0.length : Int)) = true := decide_eq_true c39
     have c39b1 : decide (150 ≤ l0.length) = true := decide_eq_true (by omega)
     (first | rw [c39b0] | rw [c39b1] | (simp only [i64_w, i32_w]; first | rw [c39b0] | rw [c39b1]) | skip)
     clear c39
     simp only [Option.some.injEq, Prod.mk.injEq] at H
     obtain ⟨rfl, rfl⟩ := H
     refine done_ (done_of HT_.out (by kernel_rfl)) ?_
     try go_wp2
     go_ret2
     exact ⟨_, er_q, by (with_reducible repeat (first | apply Kd.V_alloc | apply Kd.V_drewN | apply Kd.V_drew)); exact Kd.V_mono HO0.out (fun _ hk => hk.1), bw_q HB⟩
    ·rw [if_neg c39] at H
     have c39b0 : decide (150 ≤ (l0.length : Int)) = false := decide_eq_false c39
     have c39b1 : decide (150 ≤ l0.length) = false := decide_eq_false (by omega)
     (first | rw [c39b0] | rw [c39b1] | (simp only [i64_w, i32_w]; first | rw [c39b0] | rw [c39b1]) | skip)
     clear c39
     replace H := Option.bind_eq_some_iff.mp H
     obtain ⟨t513, A450, H⟩ := H
     replace H : (some (t513, true)) = some (r1, r2) := H
     have A45 := Aside0.mk A450
     clear A450
     simp only [Option.some.injEq, Prod.mk.injEq] at H
     obtain ⟨rfl, rfl⟩ := H
     refine done_ (done_of HT_.out (by kernel_rfl)) ?_
     obtain ⟨hcz51_0, hcz51_1, hcz51_2, hcz51_3, hcz51_4, hcz51_5, hcz51_6, hcz51_7⟩ := cz8_ BK503
     obtain ⟨hfz51_0, hfz51_1, hfz51_2, hfz51_3, hfz51_4, hfz51_5, hfz51_6, hfz51_7⟩ := fz8_ BK503
     try go_wp2_with (first | ((with_reducible refine gate_callee (f := 132) rfl ?_); refine goesL_ (some 39) rfl rfl Try.func132 (by kernel_rfl) rfl #[.slice A0 l0.length c0, .agg #[.int .i64 a1_0, .int .i64 a1_1, .int .i64 a1_2, .int .i64 a1_3, .int .i64 a1_4, .slice A1_5 l1_5.length c1_5, .int .i64 a1_6, .bool a1_7]] rfl mp_q ?_; (with_reducible refine (spec_l05Put.calls k (fun k_ => (((P0_ k_ ∨ P1_5_ k_) ∨ w.heap.size ≤ k_) ∧ k_ ≠ gb503)) _ _ l0 a1_0 a1_1 a1_2 a1_3 a1_4 (fun k_ => (((P0_ k_ ∨ P1_5_ k_) ∨ w.heap.size ≤ k_) ∧ k_ ≠ gb503)) _ _ l1_5 a1_6 a1_7 t513 _ ?side1 ?side2 A45.out).mono ?_); (case side1 => exact HO0.out); (case side2 => exact HO1_5.out); rintro e w52 ⟨v514, rfl, ho0, hb⟩; refine ⟨_, rfl, ?_⟩; replace HO0 := Aside0.mk (Kd.V_elder' (kV_q HO0) (Kd.N_base ho0) hb); replace HO1_5 := Aside0.mk (Kd.V_elder' (kV_q HO1_5) (Kd.N_base ho0) hb); have HO515 := Aside0.mk (Kd.N_lower (Kd.N_mono (ok' := fun k_ => ((P0_ k_ ∨ P1_5_ k_) ∨ w.heap.size ≤ k_) ∧ k_ ≠ gb503) ho0 (fun k_ hk_ => ⟨Or.elim hk_ (fun hs_ => Or.elim hs_ (fun hs_ => hs_.1) (fun hs_ => hs_.1)) (fun hn_ => (.inr (Nat.le_trans (below_size (bw_q HB)) hn_))), Or.elim hk_ (fun hs_ => Or.elim hs_ (fun hs_ => hs_.2) (fun hs_ => hs_.2)) (fun hn_ => (Kd.freshB (g := gb503) (o := .cells #[.int .i64 a1_0, .int .i64 a1_1, .int .i64 a1_2, .int .i64 a1_3, .int .i64 a1_4, .slice A1_5 l1_5.length c1_5, .int .i64 a1_6, .bool a1_7] 61 (0, 0)) (bk_q BK503) k_ hn_))⟩)) (below_size (bw_q HB))); replace BK503 := Aside0.mk (blk_below (g := gb503) (bk_q BK503) hb); replace HB := Aside0.mk (below_step (bw_q HB) hb); (try clear hb); (try clear hb2); (try clear hk); (try clear hi); (try clear ho0)))
     go_ret2
     exact ⟨_, er_q, Kd.N_V (by (with_reducible repeat (first | apply Kd.N_alloc | apply Kd.N_drewN | apply Kd.N_drew)); exact Kd.N_mono HO515.out (fun _ hk => hk.1)), bw_q HB⟩
   ·rw [if_neg c38] at H
    have c38b0 : decide (t504 < 0) = false := decide_eq_false c38
    (first | rw [c38b0] | (simp only [i64_w, i32_w]; first | rw [c38b0]) | skip)
    clear c38
    replace H := Option.bind_eq_some_iff.mp H
    obtain ⟨t516, A530, H⟩ := H
    replace H : (some (t516, true)) = some (r1, r2) := H
    have A53 := Aside0.mk A530
    clear A530
    simp only [Option.some.injEq, Prod.mk.injEq] at H
    obtain ⟨rfl, rfl⟩ := H
    refine pu_ 21 31 (bL 26 4194303) HT_.out rfl rfl ?_
    refine pu_ 22 32 (bL 26 8388607) HT_.out rfl rfl ?_
    refine pu_ 23 33 (bL 26 16777215) HT_.out rfl rfl ?_
    refine pq_ 24 34 (bL 26 33554431) HT_.out rfl rfl ?_
    refine pq_ 25 35 (bL 26 67108863) HT_.out rfl rfl ?_
    refine done_ (done_of HT_.out (by kernel_rfl)) ?_
    obtain ⟨hcz59_0, hcz59_1, hcz59_2, hcz59_3, hcz59_4, hcz59_5, hcz59_6, hcz59_7⟩ := cz8_ BK503
    obtain ⟨hfz59_0, hfz59_1, hfz59_2, hfz59_3, hfz59_4, hfz59_5, hfz59_6, hfz59_7⟩ := fz8_ BK503
    try go_wp2_with (first | ((with_reducible refine gate_callee (f := 132) rfl ?_); refine goesL_ (some 39) rfl rfl Try.func132 (by kernel_rfl) rfl #[.slice A0 l0.length c0, .agg #[.int .i64 a1_0, .int .i64 a1_1, .int .i64 a1_2, .int .i64 a1_3, .int .i64 a1_4, .slice A1_5 l1_5.length c1_5, .int .i64 a1_6, .bool a1_7]] rfl mp_q ?_; (with_reducible refine (spec_l05Put.calls k (fun k_ => (((P0_ k_ ∨ P1_5_ k_) ∨ w.heap.size ≤ k_) ∧ k_ ≠ gb503)) _ _ l0 a1_0 a1_1 a1_2 a1_3 a1_4 (fun k_ => (((P0_ k_ ∨ P1_5_ k_) ∨ w.heap.size ≤ k_) ∧ k_ ≠ gb503)) _ _ l1_5 a1_6 a1_7 t516 _ ?side1 ?side2 A53.out).mono ?_); (case side1 => exact HO0.out); (case side2 => exact HO1_5.out); rintro e w60 ⟨v517, rfl, ho0, hb⟩; refine ⟨_, rfl, ?_⟩; replace HO0 := Aside0.mk (Kd.V_elder' (kV_q HO0) (Kd.N_base ho0) hb); replace HO1_5 := Aside0.mk (Kd.V_elder' (kV_q HO1_5) (Kd.N_base ho0) hb); have HO518 := Aside0.mk (Kd.N_lower (Kd.N_mono (ok' := fun k_ => ((P0_ k_ ∨ P1_5_ k_) ∨ w.heap.size ≤ k_) ∧ k_ ≠ gb503) ho0 (fun k_ hk_ => ⟨Or.elim hk_ (fun hs_ => Or.elim hs_ (fun hs_ => hs_.1) (fun hs_ => hs_.1)) (fun hn_ => (.inr (Nat.le_trans (below_size (bw_q HB)) hn_))), Or.elim hk_ (fun hs_ => Or.elim hs_ (fun hs_ => hs_.2) (fun hs_ => hs_.2)) (fun hn_ => (Kd.freshB (g := gb503) (o := .cells #[.int .i64 a1_0, .int .i64 a1_1, .int .i64 a1_2, .int .i64 a1_3, .int .i64 a1_4, .slice A1_5 l1_5.length c1_5, .int .i64 a1_6, .bool a1_7] 61 (0, 0)) (bk_q BK503) k_ hn_))⟩)) (below_size (bw_q HB))); replace BK503 := Aside0.mk (blk_below (g := gb503) (bk_q BK503) hb); replace HB := Aside0.mk (below_step (bw_q HB) hb); (try clear hb); (try clear hb2); (try clear hk); (try clear hi); (try clear ho0)))
    go_ret2
    exact ⟨_, er_q, Kd.N_V (by (with_reducible repeat (first | apply Kd.N_alloc | apply Kd.N_drewN | apply Kd.N_drew)); exact Kd.N_mono HO518.out (fun _ hk => hk.1)), bw_q HB⟩
 ·replace c5 := Bool.eq_false_iff.mpr c5
  subst c5
  have H1 : (some (l0, false)) = some (r1, r2) := by rw [if_neg (show ¬ (false = true) by decide)] at H; exact H
  clear H
  have H := H1
  clear H1
  simp only [Option.some.injEq, Prod.mk.injEq] at H
  obtain ⟨rfl, rfl⟩ := H
  go_enter Try.func93, Try.ntmps93
  try go_wp2_with (first | ((with_reducible refine gate_dst (N := 3) rfl ?_); (try (refine gate_guard (by rfl) ?_; dsimp only)); refine box_q 3 #[.int .i64 a1_0, .int .i64 a1_1, .int .i64 a1_2, .int .i64 a1_3, .int .i64 a1_4, .slice A1_5 l1_5.length c1_5, .int .i64 a1_6, .bool a1_7] 61 ?_; intro gb503 hg w61 hbox hb; replace HO0 := Aside0.mk (Kd.V_below (Kd.V_elderB (kV_q HO0) gb503 (Nat.le_of_eq hg.symm)) hb); replace HO1_5 := Aside0.mk (Kd.V_below (Kd.V_elderB (kV_q HO1_5) gb503 (Nat.le_of_eq hg.symm)) hb); have BK503 := Aside0.mk (hbox); have GW503 := Aside0.mk ((by rw [hg]; exact (below_size (bw_q HB)) : w.heap.size ≤ gb503)); have GE503 := Aside0.mk ((by rw [hg]; exact (below_size (bw_q HB)) : w.heap.size ≤ gb503)); replace HB := Aside0.mk (below_step (bw_q HB) hb); clear hb hbox hg; have hcz62_0 : w61.cell? ⟨gb503, 0, none⟩ = some (.int .i64 a1_0) := (blk_cell BK503.out 0).trans rfl; have hcz62_1 : w61.cell? ⟨gb503, 1, none⟩ = some (.int .i64 a1_1) := (blk_cell BK503.out 1).trans rfl; have hcz62_2 : w61.cell? ⟨gb503, 2, none⟩ = some (.int .i64 a1_2) := (blk_cell BK503.out 2).trans rfl; have hcz62_3 : w61.cell? ⟨gb503, 3, none⟩ = some (.int .i64 a1_3) := (blk_cell BK503.out 3).trans rfl; have hcz62_4 : w61.cell? ⟨gb503, 4, none⟩ = some (.int .i64 a1_4) := (blk_cell BK503.out 4).trans rfl; have hcz62_5 : w61.cell? ⟨gb503, 5, none⟩ = some (.slice A1_5 l1_5.length c1_5) := (blk_cell BK503.out 5).trans rfl; have hcz62_6 : w61.cell? ⟨gb503, 6, none⟩ = some (.int .i64 a1_6) := (blk_cell BK503.out 6).trans rfl; have hcz62_7 : w61.cell? ⟨gb503, 7, none⟩ = some (.bool a1_7) := (blk_cell BK503.out 7).trans rfl; have hfz62_0 := blk_frozen BK503.out 0; have hfz62_1 := blk_frozen BK503.out 1; have hfz62_2 := blk_frozen BK503.out 2; have hfz62_3 := blk_frozen BK503.out 3; have hfz62_4 := blk_frozen BK503.out 4; have hfz62_5 := blk_frozen BK503.out 5; have hfz62_6 := blk_frozen BK503.out 6; have hfz62_7 := blk_frozen BK503.out 7) | ((with_reducible refine gate_callee (f := 105) rfl ?_); refine goesL_ (some 9) rfl rfl Try.func105 (by kernel_rfl) rfl #[.slice A0 l0.length c0, .agg #[.int .i64 a1_0, .int .i64 a1_1, .int .i64 a1_2, .int .i64 a1_3, .int .i64 a1_4, .slice A1_5 l1_5.length c1_5, .int .i64 a1_6, .bool a1_7]] rfl mp_q ?_; (with_reducible refine (spec_l05At.calls k _ _ l0 a1_0 a1_1 a1_2 a1_3 a1_4 _ _ l1_5 a1_6 a1_7 t504 _ ?side1 ?side2 ?side3 ?side4 A3.out).mono ?_); (case side1 => repeat (first | exact (Kd.V_reads' HO0.out).2.2 | (with_reducible refine Kd.C_alloc ?_ _) | (with_reducible refine Kd.C_drewN ?_ _) | (with_reducible refine Kd.C_drew ?_))); (case side2 => exact (Kd.V_reads' HO0.out).2.1); (case side3 => repeat (first | exact (Kd.V_reads' HO1_5.out).2.2 | (with_reducible refine Kd.C_alloc ?_ _) | (with_reducible refine Kd.C_drewN ?_ _) | (with_reducible refine Kd.C_drew ?_))); (case side4 => exact (Kd.V_reads' HO1_5.out).2.1); rintro e w63 ⟨rfl, hb⟩; refine ⟨_, rfl, ?_⟩; replace HO0 := Aside0.mk (Kd.V_below (kV_q HO0) hb); replace HO1_5 := Aside0.mk (Kd.V_below (kV_q HO1_5) hb); replace BK503 := Aside0.mk (blk_below (g := gb503) (bk_q BK503) hb); replace HB := Aside0.mk (below_step (bw_q HB) hb); (try clear hb); (try clear hb2); (try clear hk); (try clear hi)))
  replace HO0 := Aside0.mk (Kd.V_drew HO0.out)
  replace HO1_5 := Aside0.mk (Kd.V_drew HO1_5.out)
  replace BK503 := Aside0.mk (blk_drew BK503.out)
  replace HB := Aside0.mk (below_drew1 HB.out)
  refine start_ (n := 26) (S := fun w' => w'.cell? ⟨gb503, 0, none⟩ = some (.int .i64 a1_0) ∧ w'.cell? ⟨gb503, 1, none⟩ = some (.int .i64 a1_1) ∧ w'.cell? ⟨gb503, 2, none⟩ = some (.int .i64 a1_2) ∧ w'.cell? ⟨gb503, 3, none⟩ = some (.int .i64 a1_3) ∧ w'.cell? ⟨gb503, 4, none⟩ = some (.int .i64 a1_4) ∧ w'.cell? ⟨gb503, 5, none⟩ = some (.slice A1_5 l1_5.length c1_5) ∧ w'.cell? ⟨gb503, 6, none⟩ = some (.int .i64 a1_6) ∧ w'.cell? ⟨gb503, 7, none⟩ = some (.bool a1_7)) (ds := []) (bL 26 0) (by kernel_rfl) rfl rfl ⟨(blk_cell BK503.out 0).trans rfl, (blk_cell BK503.out 1).trans rfl, (blk_cell BK503.out 2).trans rfl, (blk_cell BK503.out 3).trans rfl, (blk_cell BK503.out 4).trans rfl, (blk_cell BK503.out 5).trans rfl, (blk_cell BK503.out 6).trans rfl, (blk_cell BK503.out 7).trans rfl⟩ (fun hHeld => ?_); refine with_tabW spec_l05Install.tab2 spec_l05Install.bits2 (fun HT_ HW_ => ?_)
  generalize w63.drew = w64 at HO0 HO1_5 BK503 HB hHeld ⊢
  refine take_ (i := 0) (N := some 10) (v := ?_) (a' := ?_) (bL 26 1) rfl rfl (take_ofW HT_.out HW_.out (by kernel_rfl)) (fun _ _ _ h => h) (Or.inl ⟨by rfl, ?_⟩) hHeld ?_ ?_; rotate_left; (rintro w' ⟨s0, s1, s2, s3, s4, s5, s6, s7⟩; go_simp; with_reducible rfl); rotate_left; (exact put_q)
  refine one_ (i := 1) (N := some 11) (bL 26 3) rfl rfl (one_of HT_.out (by kernel_rfl)) (by decide) (fun K hK => ?_)
  refine goes_ Try.func131 (by kernel_rfl) rfl #[.agg #[.int .i64 a1_0, .int .i64 a1_1, .int .i64 a1_2, .int .i64 a1_3, .int .i64 a1_4, .slice A1_5 l1_5.length c1_5, .int .i64 a1_6, .bool a1_7]] (by rfl) rfl rfl mp_q ?_
  with_reducible refine (spec_RecordOk.calls k a1_0 a1_1 a1_2 a1_3 a1_4 _ _ l1_5 a1_6 a1_7 false _ ?side1 ?side2 A4.out).mono ?_
  (case side1 => repeat (first | exact (Kd.V_reads' HO1_5.out).2.2 | (with_reducible refine Kd.C_alloc ?_ _) | (with_reducible refine Kd.C_drewN ?_ _) | (with_reducible refine Kd.C_drew ?_)))
  (case side2 => exact (Kd.V_reads' HO1_5.out).2.1)
  rintro e w65 ⟨rfl, hb⟩
  refine ⟨_, rfl, ?_⟩
  replace HO0 := Aside0.mk (Kd.V_below (kV_q HO0) hb)
  replace HO1_5 := Aside0.mk (Kd.V_below (kV_q HO1_5) hb)
  replace BK503 := Aside0.mk (blk_below (g := gb503) (bk_q BK503) hb)
  replace HB := Aside0.mk (below_step (bw_q HB) hb)
  (try clear hb)
  (try clear hb2)
  (try clear hk)
  (try clear hi)
  refine hK.out _ _ ⟨(blk_cell BK503.out 0).trans rfl, (blk_cell BK503.out 1).trans rfl, (blk_cell BK503.out 2).trans rfl, (blk_cell BK503.out 3).trans rfl, (blk_cell BK503.out 4).trans rfl, (blk_cell BK503.out 5).trans rfl, (blk_cell BK503.out 6).trans rfl, (blk_cell BK503.out 7).trans rfl⟩ (fun hHeld => ?_)
  clear hK K
  refine norm_ (a' := ?_) ?_ ?_; rotate_left; (show Act.put _ (some 11) _ = _; simp only [Act.put, List.setIfInBounds_toArray, List.set_cons_zero, List.set_cons_succ, i64_w, i32_w]; rfl)
  refine pq_ 2 12 (bL 26 7) HT_.out rfl rfl ?_
  refine pq_ 3 13 (bL 26 15) HT_.out rfl rfl ?_
  refine pu_ 4 14 (bL 26 31) HT_.out rfl rfl ?_
  refine pu_ 5 15 (bL 26 63) HT_.out rfl rfl ?_
  refine pu_ 6 16 (bL 26 127) HT_.out rfl rfl ?_
  refine pu_ 7 17 (bL 26 255) HT_.out rfl rfl ?_
  refine pu_ 8 18 (bL 26 511) HT_.out rfl rfl ?_
  refine pu_ 9 19 (bL 26 1023) HT_.out rfl rfl ?_
  refine pu_ 10 20 (bL 26 2047) HT_.out rfl rfl ?_
  refine pu_ 11 21 (bL 26 4095) HT_.out rfl rfl ?_
  refine pu_ 12 22 (bL 26 8191) HT_.out rfl rfl ?_
  refine pu_ 13 23 (bL 26 16383) HT_.out rfl rfl ?_
  refine pu_ 14 24 (bL 26 32767) HT_.out rfl rfl ?_
  refine pu_ 15 25 (bL 26 65535) HT_.out rfl rfl ?_
  refine pq_ 16 26 (bL 26 131071) HT_.out rfl rfl ?_
  refine pq_ 17 27 (bL 26 262143) HT_.out rfl rfl ?_
  refine pu_ 18 28 (bL 26 524287) HT_.out rfl rfl ?_
  refine pu_ 19 29 (bL 26 1048575) HT_.out rfl rfl ?_
  refine pu_ 20 30 (bL 26 2097151) HT_.out rfl rfl ?_
  refine pu_ 21 31 (bL 26 4194303) HT_.out rfl rfl ?_
  refine pu_ 22 32 (bL 26 8388607) HT_.out rfl rfl ?_
  refine pu_ 23 33 (bL 26 16777215) HT_.out rfl rfl ?_
  refine pu_ 24 34 (bL 26 33554431) HT_.out rfl rfl ?_
  refine pq_ 25 35 (bL 26 67108863) HT_.out rfl rfl ?_
  refine done_ (done_of HT_.out (by kernel_rfl)) ?_
  try go_wp2
  go_ret2
  exact ⟨_, er_q, by (with_reducible repeat (first | apply Kd.V_alloc | apply Kd.V_drewN | apply Kd.V_drew)); exact Kd.V_mono HO0.out (fun _ hk => hk.1), bw_q HB⟩

end Go.Proofs.Ythjmdiggglkeaaa.Q
