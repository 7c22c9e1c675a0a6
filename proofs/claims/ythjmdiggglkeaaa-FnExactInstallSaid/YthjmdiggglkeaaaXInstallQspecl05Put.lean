import Derived.Test.YthjmdiggglkeaaaXInstallQlawstoNearS
import Derived.Test.YthjmdiggglkeaaaXInstallQspecl04Near
/- A Go function as a Lean function, and its contract: for every input the Go code comes to what the Lean function tells. -/


namespace Go.Proofs.Ythjmdiggglkeaaa.Q
open Go.RowKit Go.Proofs.YthjmdiggglkeaaaW.PrintWords Go.Proofs.YthjmdiggglkeaaaW.PrintLast Go.Proofs.YthjmdiggglkeaaaW.PrintMore
attribute [local go_sem] max2_int min2_int max_two min_two max_three min_three max_four min_four   -- for this text's walks alone
set_option linter.unusedVariables false
set_option linter.unusedSimpArgs false

/-! ### spec_l05Put: function 132 -/
mutual
def spec_l05Put.l0 : Nat → List (S61) → List (S61) → Int → Int → Int → Int → Int → Int → List (S127) → Int → Bool → Option ((List (S61)))
 | 0, _, _, _, _, _, _, _, _, _, _, _ => none
 | k + 1, x0, x5, x6, x485000, x485001, x485002, x485003, x485004, x485005, x485006, x485007 => if x6 < (x0.length : Int) then (if 0 ≤ x6 then ((spec_Before.f ((rd_T61 x0 x6).f0) ((rd_T61 x0 x6).f1) ((rd_T61 x0 x6).f2) ((rd_T61 x0 x6).f3) ((rd_T61 x0 x6).f4) ((rd_T61 x0 x6).f5) ((rd_T61 x0 x6).f6) ((rd_T61 x0 x6).f7) x485000 x485001 x485002 x485003 x485004 x485005 x485006 x485007).bind fun t489 => (if t489 = true then (if x5.length < 1759218604441 then (spec_l05Put.l0 k x0 (x5 ++ [(⟨(rd_T61 x0 x6).f0, (rd_T61 x0 x6).f1, (rd_T61 x0 x6).f2, (rd_T61 x0 x6).f3, (rd_T61 x0 x6).f4, (rd_T61 x0 x6).f5, (rd_T61 x0 x6).f6, (rd_T61 x0 x6).f7⟩ : S61)]) (wrap64 (x6 + 1)) x485000 x485001 x485002 x485003 x485004 x485005 x485006 x485007) else (none)) else (spec_l05Put.l0 k x0 x5 (wrap64 (x6 + 1)) x485000 x485001 x485002 x485003 x485004 x485005 x485006 x485007))) else (none)) else (if x5.length < 1759218604441 then (spec_l05Put.l1 k x0 (x5 ++ [(⟨x485000, x485001, x485002, x485003, x485004, x485005, x485006, x485007⟩ : S61)]) 0 x485000 x485001 x485002 x485003 x485004 x485005 x485006 x485007) else (none))
def spec_l05Put.l1 : Nat → List (S61) → List (S61) → Int → Int → Int → Int → Int → Int → List (S127) → Int → Bool → Option ((List (S61)))
 | 0, _, _, _, _, _, _, _, _, _, _, _ => none
 | k + 1, x0, x5, x7, x485000, x485001, x485002, x485003, x485004, x485005, x485006, x485007 => if x7 < (x0.length : Int) then (if 0 ≤ x7 then ((spec_Before.f x485000 x485001 x485002 x485003 x485004 x485005 x485006 x485007 ((rd_T61 x0 x7).f0) ((rd_T61 x0 x7).f1) ((rd_T61 x0 x7).f2) ((rd_T61 x0 x7).f3) ((rd_T61 x0 x7).f4) ((rd_T61 x0 x7).f5) ((rd_T61 x0 x7).f6) ((rd_T61 x0 x7).f7)).bind fun t498 => (if t498 = true then (if x5.length < 1759218604441 then (spec_l05Put.l1 k x0 (x5 ++ [(⟨(rd_T61 x0 x7).f0, (rd_T61 x0 x7).f1, (rd_T61 x0 x7).f2, (rd_T61 x0 x7).f3, (rd_T61 x0 x7).f4, (rd_T61 x0 x7).f5, (rd_T61 x0 x7).f6, (rd_T61 x0 x7).f7⟩ : S61)]) (wrap64 (x7 + 1)) x485000 x485001 x485002 x485003 x485004 x485005 x485006 x485007) else (none)) else (spec_l05Put.l1 k x0 x5 (wrap64 (x7 + 1)) x485000 x485001 x485002 x485003 x485004 x485005 x485006 x485007))) else (none)) else (some x5)
end
def spec_l05Put.f (k : Nat) (l0 : List (S61)) (a1_0 : Int) (a1_1 : Int) (a1_2 : Int) (a1_3 : Int) (a1_4 : Int) (l1_5 : List (S127)) (a1_6 : Int) (a1_7 : Bool) : Option ((List (S61))) := spec_l05Put.l0 k l0 (([] : List (S61))) 0 a1_0 a1_1 a1_2 a1_3 a1_4 l1_5 a1_6 a1_7
theorem spec_l05Put.mono_l : ∀ k, (∀ y0 y1 y2 y3 y4 y5 y6 y7 y8 y9 y10, LeO (spec_l05Put.l0 k y0 y1 y2 y3 y4 y5 y6 y7 y8 y9 y10) (spec_l05Put.l0 (k + 1) y0 y1 y2 y3 y4 y5 y6 y7 y8 y9 y10)) ∧ (∀ y0 y1 y2 y3 y4 y5 y6 y7 y8 y9 y10, LeO (spec_l05Put.l1 k y0 y1 y2 y3 y4 y5 y6 y7 y8 y9 y10) (spec_l05Put.l1 (k + 1) y0 y1 y2 y3 y4 y5 y6 y7 y8 y9 y10))
 | 0 => ⟨fun _ _ _ _ _ _ _ _ _ _ _ r h => by simp [spec_l05Put.l0] at h, fun _ _ _ _ _ _ _ _ _ _ _ r h => by simp [spec_l05Put.l1] at h⟩
 | k + 1 => by
  obtain ⟨ih0, ih1⟩ := spec_l05Put.mono_l k
  refine ⟨?_, ?_⟩
  ·intro y0 y1 y2 y3 y4 y5 y6 y7 y8 y9 y10
   unfold spec_l05Put.l0
   repeat' first
   | (with_reducible exact ih0 _ _ _ _ _ _ _ _ _ _ _)
   | (with_reducible exact ih1 _ _ _ _ _ _ _ _ _ _ _)
   | (with_reducible exact LeO.refl _)
   | (with_reducible exact LeO.none _)
   | (with_reducible refine LeO.ite ?_ ?_)
   | (with_reducible refine LeO.bind ?_ (fun _ => ?_))
   | exact ih0 _ _ _ _ _ _ _ _ _ _ _
   | exact ih1 _ _ _ _ _ _ _ _ _ _ _
   | exact LeO.none _
   | refine LeO.ite ?_ ?_
   | refine LeO.bind ?_ (fun _ => ?_)
  ·intro y0 y1 y2 y3 y4 y5 y6 y7 y8 y9 y10
   unfold spec_l05Put.l1
   repeat' first
   | (with_reducible exact ih0 _ _ _ _ _ _ _ _ _ _ _)
   | (with_reducible exact ih1 _ _ _ _ _ _ _ _ _ _ _)
   | (with_reducible exact LeO.refl _)
   | (with_reducible exact LeO.none _)
   | (with_reducible refine LeO.ite ?_ ?_)
   | (with_reducible refine LeO.bind ?_ (fun _ => ?_))
   | exact ih0 _ _ _ _ _ _ _ _ _ _ _
   | exact ih1 _ _ _ _ _ _ _ _ _ _ _
   | exact LeO.none _
   | refine LeO.ite ?_ ?_
   | refine LeO.bind ?_ (fun _ => ?_)
theorem spec_l05Put.mono : ∀ a0 a1 a2 a3 a4 a5 a6 a7 a8 k, LeO (spec_l05Put.f k a0 a1 a2 a3 a4 a5 a6 a7 a8) (spec_l05Put.f (k + 1) a0 a1 a2 a3 a4 a5 a6 a7 a8) := by
 intro a0 a1 a2 a3 a4 a5 a6 a7 a8 k
 obtain ⟨ih0, ih1⟩ := spec_l05Put.mono_l k
 unfold spec_l05Put.f
 repeat' first
   | (with_reducible exact ih0 _ _ _ _ _ _ _ _ _ _ _)
   | (with_reducible exact ih1 _ _ _ _ _ _ _ _ _ _ _)
   | (with_reducible exact LeO.refl _)
   | (with_reducible exact LeO.none _)
   | (with_reducible refine LeO.ite ?_ ?_)
   | (with_reducible refine LeO.bind ?_ (fun _ => ?_))
   | exact ih0 _ _ _ _ _ _ _ _ _ _ _
   | exact ih1 _ _ _ _ _ _ _ _ _ _ _
   | exact LeO.none _
   | refine LeO.ite ?_ ?_
   | refine LeO.bind ?_ (fun _ => ?_)
set_option maxHeartbeats 8000000 in
set_option maxRecDepth 100000 in
theorem spec_l05Put.calls (k : Nat) (P0_ : Nat → Prop) (A0 : Option Addr) (c0 : Nat) (l0 : List (S61)) (a1_0 : Int) (a1_1 : Int) (a1_2 : Int) (a1_3 : Int) (a1_4 : Int) (P1_5_ : Nat → Prop) (A1_5 : Option Addr) (c1_5 : Nat) (l1_5 : List (S127)) (a1_6 : Int) (a1_7 : Bool) (r : List (S61)) (w : World) (hs0 : Kd.V k61 61 w w.heap.size (fun k_ => P0_ k_) (.slice A0 l0.length c0) l0) (hs1_5 : Kd.V k127 127 w w.heap.size (fun k_ => P1_5_ k_) (.slice A1_5 l1_5.length c1_5) l1_5) (h : spec_l05Put.f k l0 a1_0 a1_1 a1_2 a1_3 a1_4 l1_5 a1_6 a1_7 = some r) :
  Calls Try.prog 132 #[.slice A0 l0.length c0, .agg #[.int .i64 a1_0, .int .i64 a1_1, .int .i64 a1_2, .int .i64 a1_3, .int .i64 a1_4, .slice A1_5 l1_5.length c1_5, .int .i64 a1_6, .bool a1_7]] w fun e w' => ∃ v0_ : Value, e = .returned (v0_) ∧ Kd.N k61 61 w' w.heap.size (fun k_ => ((P0_ k_ ∨ P1_5_ k_) ∨ w.heap.size ≤ k_)) v0_ r ∧ Below w.heap.size w w' := by
 have hu61 := Try.underlying61
 have HO0 := Aside0.mk (show Kd.V k61 61 w w.heap.size (fun k_ => ((P0_ k_ ∨ P1_5_ k_) ∨ w.heap.size ≤ k_)) (.slice A0 l0.length c0) l0 from Kd.V_mono hs0 (fun k_ hk => .inl (.inl hk)))
 have HO1_5 := Aside0.mk (show Kd.V k127 127 w w.heap.size (fun k_ => ((P0_ k_ ∨ P1_5_ k_) ∨ w.heap.size ≤ k_)) (.slice A1_5 l1_5.length c1_5) l1_5 from Kd.V_mono hs1_5 (fun k_ hk => .inl (.inr hk)))
 have HB := Aside0.mk (Below.refl w.heap.size w)
 have H : (spec_l05Put.l0 k l0 (([] : List (S61))) 0 a1_0 a1_1 a1_2 a1_3 a1_4 l1_5 a1_6 a1_7) = some r := h
 clear h
 obtain ⟨y485, hy485⟩ : ∃ y_ : List (S61), y_ = (([] : List (S61))) := ⟨_, rfl⟩
 replace H : (spec_l05Put.l0 k l0 y485 0 a1_0 a1_1 a1_2 a1_3 a1_4 l1_5 a1_6 a1_7) = some r := by first | (rw [hy485]; with_reducible exact H) | (have H2_ := (Option.bind_some _ _).symm.trans H; rw [hy485]; with_reducible exact H2_) | (have H2_ := (Option.bind_some _ _).symm.trans H; with_reducible exact H2_) | with_reducible exact H | (rw [hy485]; exact H) | exact H
 have Ny485 := Aside0.mk hy485
 clear hy485
 have H' := Aside0.mk H
 clear H
 go_enter Try.func132, Try.ntmps132
 go_wp2_with (first | ((with_reducible refine gate_dst (N := 3) rfl ?_); refine box_q 3 #[.int .i64 a1_0, .int .i64 a1_1, .int .i64 a1_2, .int .i64 a1_3, .int .i64 a1_4, .slice A1_5 l1_5.length c1_5, .int .i64 a1_6, .bool a1_7] 61 ?_; intro gb484 hg w3 hbox hb; replace HO0 := Aside0.mk (Kd.V_below (Kd.V_elderB (kV_q HO0) gb484 (Nat.le_of_eq hg.symm)) hb); replace HO1_5 := Aside0.mk (Kd.V_below (Kd.V_elderB (kV_q HO1_5) gb484 (Nat.le_of_eq hg.symm)) hb); have BK484 := Aside0.mk (hbox); have GW484 := Aside0.mk ((by rw [hg]; exact (below_size (bw_q HB)) : w.heap.size ≤ gb484)); have GE484 := Aside0.mk ((by rw [hg]; exact (below_size (bw_q HB)) : w.heap.size ≤ gb484)); replace HB := Aside0.mk (below_step (bw_q HB) hb); clear hb hbox hg) | ((with_reducible refine gate_dst (N := 8) rfl ?_); refine Kd.N_lit k61 _ 61 ?hg (N' := 8) ?hd (xs := ([] : List (S61))) (inner := []) (ok := (fun k_ => ((P0_ k_ ∨ P1_5_ k_) ∨ w.heap.size ≤ k_) ∧ k_ ≠ gb484)) (okp := (fun k_ => ((P0_ k_ ∨ P1_5_ k_) ∨ w.heap.size ≤ k_) ∧ k_ ≠ gb484)) ?hr ?hp (fun _ hk => hk) ((show ∀ k_, w3.heap.size ≤ k_ → (fun k_ => ((P0_ k_ ∨ P1_5_ k_) ∨ w.heap.size ≤ k_) ∧ k_ ≠ gb484) k_ from fun k_ hk => ⟨(.inr (Nat.le_trans (below_size (bw_q HB)) hk)), Kd.freshB (g := gb484) (o := .cells #[.int .i64 a1_0, .int .i64 a1_1, .int .i64 a1_2, .int .i64 a1_3, .int .i64 a1_4, .slice A1_5 l1_5.length c1_5, .int .i64 a1_6, .bool a1_7] 61 (0, 0)) (bk_q BK484) k_ hk⟩) _ (Nat.le_refl _)) (Below.refl _ _) (Nat.le_refl _) (by simp) ?_; (case hd => rfl); (case hg => rfl); (case hr => first | (go_simp; done) | (go_simp; rfl)); (case hp => exact (Reps.none _ _)); intro v486 w4 ho5 hb hg_ hnew_; clear hg_ hnew_; (first | rw [← Ny485.out] at ho5 | (simp only [Int.reduceToNat] at ho5; rw [← Ny485.out] at ho5)); replace HO0 := Aside0.mk (Kd.V_elder' (kV_q HO0) (Kd.N_base ho5) hb); replace HO1_5 := Aside0.mk (Kd.V_elder' (kV_q HO1_5) (Kd.N_base ho5) hb); have HO487 := Aside0.mk (Kd.N_lower ho5 (below_size (bw_q HB))); replace BK484 := Aside0.mk (blk_below (g := gb484) (bk_q BK484) hb); replace HB := Aside0.mk (below_step (bw_q HB) hb); clear hb ho5))
 go_loopg [5, 6] k (fun kq v5 v6 w' => ∃ (x5_1 : List (S61)) (x6_1 : Int), v6 = .int .i64 x6_1 ∧ Aside0 (spec_l05Put.l0 kq l0 x5_1 x6_1 a1_0 a1_1 a1_2 a1_3 a1_4 l1_5 a1_6 a1_7 = some r) ∧ Aside0 (kq ≤ k) ∧ Aside0 (Kd.V k61 61 w' w.heap.size (fun k_ => ((P0_ k_ ∨ P1_5_ k_) ∨ w.heap.size ≤ k_) ∧ some k_ ≠ (v5 : Value).ownBlock ∧ k_ ≠ gb484) (.slice A0 l0.length c0) l0) ∧ Aside0 (Kd.N k61 61 w' w.heap.size (fun k_ => ((P0_ k_ ∨ P1_5_ k_) ∨ w.heap.size ≤ k_) ∧ k_ ≠ gb484) v5 x5_1) ∧ Aside0 (Kd.V k127 127 w' w.heap.size (fun k_ => ((P0_ k_ ∨ P1_5_ k_) ∨ w.heap.size ≤ k_) ∧ some k_ ≠ (v5 : Value).ownBlock ∧ k_ ≠ gb484) (.slice A1_5 l1_5.length c1_5) l1_5) ∧ Aside0 (w'.heap[gb484]? = some (.cells #[.int .i64 a1_0, .int .i64 a1_1, .int .i64 a1_2, .int .i64 a1_3, .int .i64 a1_4, (.slice A1_5 l1_5.length c1_5), .int .i64 a1_6, .bool a1_7] 61 (0, 0))) ∧ Aside0 (Below w.heap.size w w'))
 case atStart => exact ⟨(y485), (0), (by first | rfl | (simp; done) | (simp [*]; done)), H', ⟨Nat.le_refl _⟩, ⟨by (with_reducible repeat (first | apply Kd.V_alloc | apply Kd.V_drewN | apply Kd.V_drew)); exact Kd.V_mono HO0.out (fun _ hk => ⟨hk.1.1, ⟨hk.2, hk.1.2⟩⟩)⟩, ⟨by (with_reducible repeat (first | apply Kd.N_alloc | apply Kd.N_drewN | apply Kd.N_drew)); exact HO487.out⟩, ⟨by (with_reducible repeat (first | apply Kd.V_alloc | apply Kd.V_drewN | apply Kd.V_drew)); exact Kd.V_mono HO1_5.out (fun _ hk => ⟨hk.1.1, ⟨hk.2, hk.1.2⟩⟩)⟩, ⟨by refine bz_ ?_; exact BK484.out⟩, ⟨bw_q HB⟩⟩
 case round =>
  clear H'
  try clear c1
  try clear p2
  obtain ⟨x5_1, x6_1, rfl, HA, HK1, HO_0, HO_5, HO_485005, BK484, HB⟩ := hrel
  cases gk with
  | zero => exact absurd HA.out (by simp [spec_l05Put.l0])
  | succ k1 =>
   have H := HA.out
   clear HA
   simp only [spec_l05Put.l0] at H
   by_cases c6 : x6_1 < (l0.length : Int)
   ·rw [if_pos c6] at H
    have c6b0 : decide (x6_1 < (l0.length : Int)) = true := decide_eq_true c6
    clear c6
    by_cases c7 : 0 ≤ x6_1
    ·rw [if_pos c7] at H
     have c7b0 : decide (0 ≤ x6_1) = true := decide_eq_true c7
     clear c7
     replace H := Option.bind_eq_some_iff.mp H
     obtain ⟨t489, A80, H⟩ := H
     replace H : (if t489 = true then (if x5_1.length < 1759218604441 then (spec_l05Put.l0 k1 l0 (x5_1 ++ [(⟨(rd_T61 l0 x6_1).f0, (rd_T61 l0 x6_1).f1, (rd_T61 l0 x6_1).f2, (rd_T61 l0 x6_1).f3, (rd_T61 l0 x6_1).f4, (rd_T61 l0 x6_1).f5, (rd_T61 l0 x6_1).f6, (rd_T61 l0 x6_1).f7⟩ : S61)]) (wrap64 (x6_1 + 1)) a1_0 a1_1 a1_2 a1_3 a1_4 l1_5 a1_6 a1_7) else (none)) else (spec_l05Put.l0 k1 l0 x5_1 (wrap64 (x6_1 + 1)) a1_0 a1_1 a1_2 a1_3 a1_4 l1_5 a1_6 a1_7)) = some r := H
     have A8 := Aside0.mk A80
     clear A80
     have HZ54 := Aside0.mk H
     clear H
     try go_wp2
     replace HO_0 := Aside0.mk (Kd.V_drew HO_0.out)
     replace HO_5 := Aside0.mk (Kd.N_drew HO_5.out)
     replace HO_485005 := Aside0.mk (Kd.V_drew HO_485005.out)
     replace BK484 := Aside0.mk (blk_drew BK484.out)
     replace HB := Aside0.mk (below_drew1 HB.out)
     have p488 : 0 ≤ (x6_1 : Int) := of_decide_eq_true as_q
     have q488 : x6_1 < (l0.length : Int) := of_decide_eq_true as_q
     obtain ⟨ad488, A488_5, c488_5, e488, hx488_0, hx488_1, hx488_2, hx488_3, hx488_4, hx488_5, hx488_6, hx488_7, hl488_5, hi488_5⟩ := at_T61 (Kd.V_reads' HO_0.out).2.2 x6_1 p488 q488
     cases e488
     obtain ⟨ce488, hce488, hMe488, hcc488⟩ := Kd.V_get HO_0.out z61 x6_1 p488 (by first | exact q488 | exact of_decide_eq_true as_q | (have e_ := (Kd.V_reads' HO_0.out).1; omega))
     obtain ⟨ua488_5, uc488_5, rfl, ul488_5, ge488_5⟩ := k61_openF hMe488
     have hv488_5 := hcc488 5 _ rfl
     rw [add_field _ _ 5 (by omega)] at hv488_5
     replace hv488_5 := Option.some.inj (hv488_5.symm.trans hx488_5)
     injection hv488_5 with hva_ hvn_ hvc_
     rw [hva_] at ge488_5
     rw [hvc_] at ul488_5
     have HL488_5 := Aside0.mk (show Kd.V k127 127 _ w.heap.size _ _ ((rd_T61 l0 x6_1).f5) from Kd.V_mk ul488_5 ge488_5)
     clear hva_ hvn_ hvc_ ge488_5 ul488_5
     clear hcc488 hce488
     have HR488_5 := Aside0.mk hi488_5
     have HC488_5 := Aside0.mk hl488_5
     clear hi488_5 hl488_5
     replace p488 := eq_true p488
     replace q488 := eq_true q488
     refine start_ (n := 6) (S := fun w' => w'.cell? ⟨gb484, 0, none⟩ = some (.int .i64 a1_0) ∧ w'.cell? ⟨gb484, 1, none⟩ = some (.int .i64 a1_1) ∧ w'.cell? ⟨gb484, 2, none⟩ = some (.int .i64 a1_2) ∧ w'.cell? ⟨gb484, 3, none⟩ = some (.int .i64 a1_3) ∧ w'.cell? ⟨gb484, 4, none⟩ = some (.int .i64 a1_4) ∧ w'.cell? ⟨gb484, 5, none⟩ = some (.slice A1_5 l1_5.length c1_5) ∧ w'.cell? ⟨gb484, 6, none⟩ = some (.int .i64 a1_6) ∧ w'.cell? ⟨gb484, 7, none⟩ = some (.bool a1_7) ∧ w'.cell? (ad488.add ((x6_1).toNat * 8)) = some (.int .i64 ((rd_T61 l0 x6_1).f0)) ∧ w'.cell? ⟨(ad488.add ((x6_1).toNat * 8)).block, (ad488.add ((x6_1).toNat * 8)).off + 1, none⟩ = some (.int .i64 ((rd_T61 l0 x6_1).f1)) ∧ w'.cell? ⟨(ad488.add ((x6_1).toNat * 8)).block, (ad488.add ((x6_1).toNat * 8)).off + 2, none⟩ = some (.int .i64 ((rd_T61 l0 x6_1).f2)) ∧ w'.cell? ⟨(ad488.add ((x6_1).toNat * 8)).block, (ad488.add ((x6_1).toNat * 8)).off + 3, none⟩ = some (.int .i64 ((rd_T61 l0 x6_1).f3)) ∧ w'.cell? ⟨(ad488.add ((x6_1).toNat * 8)).block, (ad488.add ((x6_1).toNat * 8)).off + 4, none⟩ = some (.int .i64 ((rd_T61 l0 x6_1).f4)) ∧ w'.cell? ⟨(ad488.add ((x6_1).toNat * 8)).block, (ad488.add ((x6_1).toNat * 8)).off + 5, none⟩ = some (.slice A488_5 ((rd_T61 l0 x6_1).f5).length c488_5) ∧ w'.cell? ⟨(ad488.add ((x6_1).toNat * 8)).block, (ad488.add ((x6_1).toNat * 8)).off + 6, none⟩ = some (.int .i64 ((rd_T61 l0 x6_1).f6)) ∧ w'.cell? ⟨(ad488.add ((x6_1).toNat * 8)).block, (ad488.add ((x6_1).toNat * 8)).off + 7, none⟩ = some (.bool ((rd_T61 l0 x6_1).f7))) (ds := []) (bL 6 0) (by kernel_rfl) rfl rfl ⟨(blk_cell BK484.out 0).trans rfl, (blk_cell BK484.out 1).trans rfl, (blk_cell BK484.out 2).trans rfl, (blk_cell BK484.out 3).trans rfl, (blk_cell BK484.out 4).trans rfl, (blk_cell BK484.out 5).trans rfl, (blk_cell BK484.out 6).trans rfl, (blk_cell BK484.out 7).trans rfl, hx488_0, hx488_1, hx488_2, hx488_3, hx488_4, hx488_5, hx488_6, hx488_7⟩ (fun hHeld => ?_)
     generalize wr.drew = w11 at HO_0 HO_5 HO_485005 BK484 HB HL488_5 HR488_5 hx488_0 hx488_1 hx488_2 hx488_3 hx488_4 hx488_5 hx488_6 hx488_7 hHeld ⊢
     refine pr_ 0 15 (bL 6 1) rfl rfl ?_
     refine pr_ 1 16 (bL 6 3) rfl rfl ?_
     refine pr_ 2 17 (bL 6 7) rfl rfl ?_
     refine take_ (i := 3) (N := some 18) (v := ?_) (a' := ?_) (bL 6 15) rfl rfl (by kernel_rfl) (fun _ _ _ h => h) (Or.inl ⟨by rfl, ?_⟩) hHeld ?_ ?_; rotate_left; (rintro w' ⟨s0, s1, s2, s3, s4, s5, s6, s7, s8, s9, s10, s11, s12, s13, s14, s15⟩; go_simp; with_reducible rfl); rotate_left; (exact put_q)
     refine take_ (i := 4) (N := some 19) (v := ?_) (a' := ?_) (bL 6 31) rfl rfl (by kernel_rfl) (fun _ _ _ h => h) (Or.inl ⟨by rfl, ?_⟩) hHeld ?_ ?_; rotate_left; (rintro w' ⟨s0, s1, s2, s3, s4, s5, s6, s7, s8, s9, s10, s11, s12, s13, s14, s15⟩; go_simp; with_reducible rfl); rotate_left; (exact put_q)
     refine one_ (i := 5) (N := some 20) (bL 6 63) rfl rfl (by kernel_rfl) (by decide) (fun K hK => ?_)
     refine goes_ Try.func72 (by kernel_rfl) rfl #[.agg #[.int .i64 ((rd_T61 l0 x6_1).f0), .int .i64 ((rd_T61 l0 x6_1).f1), .int .i64 ((rd_T61 l0 x6_1).f2), .int .i64 ((rd_T61 l0 x6_1).f3), .int .i64 ((rd_T61 l0 x6_1).f4), .slice A488_5 ((rd_T61 l0 x6_1).f5).length c488_5, .int .i64 ((rd_T61 l0 x6_1).f6), .bool ((rd_T61 l0 x6_1).f7)], .agg #[.int .i64 a1_0, .int .i64 a1_1, .int .i64 a1_2, .int .i64 a1_3, .int .i64 a1_4, .slice A1_5 l1_5.length c1_5, .int .i64 a1_6, .bool a1_7]] (by rfl) rfl rfl mp_q ?_
     with_reducible refine (spec_Before.calls ((rd_T61 l0 x6_1).f0) ((rd_T61 l0 x6_1).f1) ((rd_T61 l0 x6_1).f2) ((rd_T61 l0 x6_1).f3) ((rd_T61 l0 x6_1).f4) _ _ ((rd_T61 l0 x6_1).f5) ((rd_T61 l0 x6_1).f6) ((rd_T61 l0 x6_1).f7) a1_0 a1_1 a1_2 a1_3 a1_4 _ _ l1_5 a1_6 a1_7 t489 _ ?side1 ?side2 ?side3 ?side4 A8.out).mono ?_
     (case side1 => repeat (first | exact (by repeat (first | (with_reducible exact HR488_5.out) | (with_reducible refine Kd.C_alloc ?_ _) | (with_reducible refine Kd.C_drewN ?_ _) | (with_reducible refine Kd.C_drew ?_) | exact HR488_5.out)) | (with_reducible refine Kd.C_alloc ?_ _) | (with_reducible refine Kd.C_drewN ?_ _) | (with_reducible refine Kd.C_drew ?_)))
     (case side2 => exact HC488_5.out)
     (case side3 => repeat (first | exact (Kd.V_reads' HO_485005.out).2.2 | (with_reducible refine Kd.C_alloc ?_ _) | (with_reducible refine Kd.C_drewN ?_ _) | (with_reducible refine Kd.C_drew ?_)))
     (case side4 => exact (Kd.V_reads' HO_485005.out).2.1)
     rintro e w12 ⟨rfl, hb⟩
     have HS8_ := (hb.cell (World.block_lt_of_cell? _ _ (hHeld.2.2.2.2.2.2.2.2.1))).trans (hHeld.2.2.2.2.2.2.2.2.1)
     have HS9_ := (hb.cell (World.block_lt_of_cell? _ _ (hHeld.2.2.2.2.2.2.2.2.2.1))).trans (hHeld.2.2.2.2.2.2.2.2.2.1)
     have HS10_ := (hb.cell (World.block_lt_of_cell? _ _ (hHeld.2.2.2.2.2.2.2.2.2.2.1))).trans (hHeld.2.2.2.2.2.2.2.2.2.2.1)
     have HS11_ := (hb.cell (World.block_lt_of_cell? _ _ (hHeld.2.2.2.2.2.2.2.2.2.2.2.1))).trans (hHeld.2.2.2.2.2.2.2.2.2.2.2.1)
     have HS12_ := (hb.cell (World.block_lt_of_cell? _ _ (hHeld.2.2.2.2.2.2.2.2.2.2.2.2.1))).trans (hHeld.2.2.2.2.2.2.2.2.2.2.2.2.1)
     have HS13_ := (hb.cell (World.block_lt_of_cell? _ _ (hHeld.2.2.2.2.2.2.2.2.2.2.2.2.2.1))).trans (hHeld.2.2.2.2.2.2.2.2.2.2.2.2.2.1)
     have HS14_ := (hb.cell (World.block_lt_of_cell? _ _ (hHeld.2.2.2.2.2.2.2.2.2.2.2.2.2.2.1))).trans (hHeld.2.2.2.2.2.2.2.2.2.2.2.2.2.2.1)
     have HS15_ := (hb.cell (World.block_lt_of_cell? _ _ (hHeld.2.2.2.2.2.2.2.2.2.2.2.2.2.2.2))).trans (hHeld.2.2.2.2.2.2.2.2.2.2.2.2.2.2.2)
     refine ⟨_, rfl, ?_⟩
     replace HO_0 := Aside0.mk (Kd.V_below (kV_q HO_0) hb)
     replace HO_5 := Aside0.mk (Kd.N_below (kN_q HO_5) hb)
     replace HO_485005 := Aside0.mk (Kd.V_below (kV_q HO_485005) hb)
     replace HL488_5 := Aside0.mk (Kd.V_below (kV_q HL488_5) hb)
     replace BK484 := Aside0.mk (blk_below (g := gb484) (bk_q BK484) hb)
     replace HR488_5 := Aside0.mk (Kd.C_below (by repeat (first | (with_reducible exact HR488_5.out) | (with_reducible refine Kd.C_alloc ?_ _) | (with_reducible refine Kd.C_drewN ?_ _) | (with_reducible refine Kd.C_drew ?_) | exact HR488_5.out)) hb)
     replace HB := Aside0.mk (below_step (bw_q HB) hb)
     (try clear hb)
     (try clear hb2)
     (try clear hk)
     (try clear hi)
     refine hK.out _ _ ⟨(blk_cell BK484.out 0).trans rfl, (blk_cell BK484.out 1).trans rfl, (blk_cell BK484.out 2).trans rfl, (blk_cell BK484.out 3).trans rfl, (blk_cell BK484.out 4).trans rfl, (blk_cell BK484.out 5).trans rfl, (blk_cell BK484.out 6).trans rfl, (blk_cell BK484.out 7).trans rfl, HS8_, HS9_, HS10_, HS11_, HS12_, HS13_, HS14_, HS15_⟩ (fun hHeld => ?_)
     clear hK K
     refine norm_ (a' := ?_) ?_ ?_; rotate_left; (show Act.put _ (some 20) _ = _; simp only [Act.put, List.setIfInBounds_toArray, List.set_cons_zero, List.set_cons_succ, i64_w, i32_w]; rfl)
     have H := HZ54.out
     clear HZ54
     by_cases c9 : t489 = true
     ·subst c9
      have H1 : (if x5_1.length < 1759218604441 then (spec_l05Put.l0 k1 l0 (x5_1 ++ [(⟨(rd_T61 l0 x6_1).f0, (rd_T61 l0 x6_1).f1, (rd_T61 l0 x6_1).f2, (rd_T61 l0 x6_1).f3, (rd_T61 l0 x6_1).f4, (rd_T61 l0 x6_1).f5, (rd_T61 l0 x6_1).f6, (rd_T61 l0 x6_1).f7⟩ : S61)]) (wrap64 (x6_1 + 1)) a1_0 a1_1 a1_2 a1_3 a1_4 l1_5 a1_6 a1_7) else (none)) = some r := by rw [if_pos rfl] at H; exact H
      clear H
      have H := H1
      clear H1
      by_cases c10 : x5_1.length < 1759218604441
      ·rw [if_pos c10] at H
       have LMc10 := Aside0.mk c10
       clear c10
       obtain ⟨y491, hy491⟩ : ∃ y_ : List (S61), y_ = (x5_1 ++ [(⟨(rd_T61 l0 x6_1).f0, (rd_T61 l0 x6_1).f1, (rd_T61 l0 x6_1).f2, (rd_T61 l0 x6_1).f3, (rd_T61 l0 x6_1).f4, (rd_T61 l0 x6_1).f5, (rd_T61 l0 x6_1).f6, (rd_T61 l0 x6_1).f7⟩ : S61)]) := ⟨_, rfl⟩
       replace H : (spec_l05Put.l0 k1 l0 y491 (wrap64 (x6_1 + 1)) a1_0 a1_1 a1_2 a1_3 a1_4 l1_5 a1_6 a1_7) = some r := by first | (rw [hy491]; with_reducible exact H) | (have H2_ := (Option.bind_some _ _).symm.trans H; rw [hy491]; with_reducible exact H2_) | (have H2_ := (Option.bind_some _ _).symm.trans H; with_reducible exact H2_) | with_reducible exact H | (rw [hy491]; exact H) | exact H
       have Ny491 := Aside0.mk hy491
       clear hy491
       have H' := Aside0.mk H
       clear H
       refine done_ (by kernel_rfl) ?_
       (try clear HS8_); (try clear HS9_); (try clear HS10_); (try clear HS11_); (try clear HS12_); (try clear HS13_); (try clear HS14_); (try clear HS15_); (try clear hHeld)
       have p490 : 0 ≤ (x6_1 : Int) := of_decide_eq_true as_q
       have q490 : x6_1 < (l0.length : Int) := of_decide_eq_true as_q
       obtain ⟨ad490, A490_5, c490_5, e490, hx490_0, hx490_1, hx490_2, hx490_3, hx490_4, hx490_5, hx490_6, hx490_7, hl490_5, hi490_5⟩ := at_T61 (Kd.V_reads' HO_0.out).2.2 x6_1 p490 q490
       obtain rfl : ad488 = ad490 := (by injection e490)
       obtain ⟨ce490, hce490, hMe490, hcc490⟩ := Kd.V_get HO_0.out z61 x6_1 p490 (by first | exact q490 | exact of_decide_eq_true as_q | (have e_ := (Kd.V_reads' HO_0.out).1; omega))
       obtain ⟨ua490_5, uc490_5, rfl, ul490_5, ge490_5⟩ := k61_openF hMe490
       have hv490_5 := hcc490 5 _ rfl
       rw [add_field _ _ 5 (by omega)] at hv490_5
       replace hv490_5 := Option.some.inj (hv490_5.symm.trans hx490_5)
       injection hv490_5 with hva_ hvn_ hvc_
       rw [hva_] at ge490_5
       rw [hvc_] at ul490_5
       have HL490_5 := Aside0.mk (show Kd.V k127 127 _ w.heap.size _ _ ((rd_T61 l0 x6_1).f5) from Kd.V_mk ul490_5 ge490_5)
       clear hva_ hvn_ hvc_ ge490_5 ul490_5
       clear hcc490 hce490
       have HR490_5 := Aside0.mk hi490_5
       have HC490_5 := Aside0.mk hl490_5
       clear hi490_5 hl490_5
       replace p490 := eq_true p490
       replace q490 := eq_true q490
       try go_wp2_with (first | ((with_reducible refine gate_builtin (b := .append) (xs := #[.tmp 21, .tmp 26]) rfl ?_); at_builtin; refine Kd.N_append k61 (w0 := w) w.heap.size rfl (.tmp 21) (.tmp 26) 41 61 (.agg #[(.int .i64 0), (.int .i64 0), (.int .i64 0), (.int .i64 0), (.int .i64 0), (.slice none 0 0), (.int .i64 0), (.bool false)]) 80 rfl Try.underlying41 info61 rfl (by decide) (by omega) u5 x5_1 (⟨(rd_T61 l0 x6_1).f0, (rd_T61 l0 x6_1).f1, (rd_T61 l0 x6_1).f2, (rd_T61 l0 x6_1).f3, (rd_T61 l0 x6_1).f4, (rd_T61 l0 x6_1).f5, (rd_T61 l0 x6_1).f6, (rd_T61 l0 x6_1).f7⟩ : S61) [.int .i64 ((rd_T61 l0 x6_1).f0), .int .i64 ((rd_T61 l0 x6_1).f1), .int .i64 ((rd_T61 l0 x6_1).f2), .int .i64 ((rd_T61 l0 x6_1).f3), .int .i64 ((rd_T61 l0 x6_1).f4), .slice A490_5 ((rd_T61 l0 x6_1).f5).length c490_5, .int .i64 ((rd_T61 l0 x6_1).f6), .bool ((rd_T61 l0 x6_1).f7)] (fun k_ => ((P0_ k_ ∨ P1_5_ k_) ∨ w.heap.size ≤ k_) ∧ k_ ≠ gb484) (fun k_ => ((fun k_ => ((P0_ k_ ∨ P1_5_ k_) ∨ w.heap.size ≤ k_) ∧ k_ ≠ gb484)) k_ ∧ some k_ ≠ (u5 : Value).ownBlock) rfl rfl ?aP (fun _ hk => hk) ?aF ?aO ?aB ?aS ?aL ?_; (case aP => exact (k61_mkF _ _ (⟨(rd_T61 l0 x6_1).f0, (rd_T61 l0 x6_1).f1, (rd_T61 l0 x6_1).f2, (rd_T61 l0 x6_1).f3, (rd_T61 l0 x6_1).f4, (rd_T61 l0 x6_1).f5, (rd_T61 l0 x6_1).f6, (rd_T61 l0 x6_1).f7⟩ : S61) (Kd.V_reads' (Kd.V_mono (ok' := (fun k_ => ((fun k_ => ((P0_ k_ ∨ P1_5_ k_) ∨ w.heap.size ≤ k_) ∧ k_ ≠ gb484)) k_ ∧ some k_ ≠ (u5 : Value).ownBlock)) (HL490_5.out) (fun k_ hk => ⟨⟨hk.1, hk.2.2⟩, hk.2.1⟩))).2.1 (Kd.V_F (Kd.V_mono (ok' := (fun k_ => ((fun k_ => ((P0_ k_ ∨ P1_5_ k_) ∨ w.heap.size ≤ k_) ∧ k_ ≠ gb484)) k_ ∧ some k_ ≠ (u5 : Value).ownBlock)) (HL490_5.out) (fun k_ hk => ⟨⟨hk.1, hk.2.2⟩, hk.2.1⟩))))); (case aB => exact (bw_q HB)); (case aF => exact (fun k_ hk => ⟨(.inr (Nat.le_trans (below_size (bw_q HB)) hk)), Kd.freshB (g := gb484) (o := .cells #[.int .i64 a1_0, .int .i64 a1_1, .int .i64 a1_2, .int .i64 a1_3, .int .i64 a1_4, .slice A1_5 l1_5.length c1_5, .int .i64 a1_6, .bool a1_7] 61 (0, 0)) (bk_q BK484) k_ hk⟩)); (case aO => exact (kN_q HO_5)); (case aS => exact (below_size (bw_q HB))); (case aL => have := LMc10.out; omega); intro v492 w13 ho hb hg hat; rw [← Ny491.out] at ho; replace HO_0 := Aside0.mk (Kd.V_afterv (ok := (fun k_ => ((P0_ k_ ∨ P1_5_ k_) ∨ w.heap.size ≤ k_) ∧ k_ ≠ gb484)) (by (with_reducible repeat (first | apply Kd.V_alloc | apply Kd.V_drewN | apply Kd.V_drew)); exact Kd.V_mono HO_0.out (fun _ hk => ⟨⟨hk.1, hk.2.2⟩, hk.2.1⟩)) hg hat); replace HO_485005 := Aside0.mk (Kd.V_afterv (ok := (fun k_ => ((P0_ k_ ∨ P1_5_ k_) ∨ w.heap.size ≤ k_) ∧ k_ ≠ gb484)) (by (with_reducible repeat (first | apply Kd.V_alloc | apply Kd.V_drewN | apply Kd.V_drew)); exact Kd.V_mono HO_485005.out (fun _ hk => ⟨⟨hk.1, hk.2.2⟩, hk.2.1⟩)) hg hat); replace BK484 := Aside0.mk (blk_grown (g := gb484) (o := .cells #[.int .i64 a1_0, .int .i64 a1_1, .int .i64 a1_2, .int .i64 a1_3, .int .i64 a1_4, .slice A1_5 l1_5.length c1_5, .int .i64 a1_6, .bool a1_7] 61 (0, 0)) (bk_q BK484) hg (Kd.N_away HO_5.out (fun _ hk => hk.2))); replace HL488_5 := Aside0.mk (Kd.V_afterv (ok := (fun k_ => ((P0_ k_ ∨ P1_5_ k_) ∨ w.heap.size ≤ k_) ∧ k_ ≠ gb484)) (by (with_reducible repeat (first | apply Kd.V_alloc | apply Kd.V_drewN | apply Kd.V_drew)); exact Kd.V_mono HL488_5.out (fun _ hk => ⟨⟨hk.1, hk.2.2⟩, hk.2.1⟩)) hg hat); replace HL490_5 := Aside0.mk (Kd.V_afterv (ok := (fun k_ => ((P0_ k_ ∨ P1_5_ k_) ∨ w.heap.size ≤ k_) ∧ k_ ≠ gb484)) (by (with_reducible repeat (first | apply Kd.V_alloc | apply Kd.V_drewN | apply Kd.V_drew)); exact Kd.V_mono HL490_5.out (fun _ hk => ⟨⟨hk.1, hk.2.2⟩, hk.2.1⟩)) hg hat); replace HB := Aside0.mk (hb); have HO493 := Aside0.mk (ho); clear HO_5; clear ho hb hg hat))
       go_roundg k1
       case measure => have := HK1.out; omega
       case rel => exact ⟨(y491), (wrap64 (x6_1 + 1)), (by first | rfl | (simp; done) | (simp [*]; done)), H', ⟨by have := HK1.out; omega⟩, ⟨by (with_reducible repeat (first | apply Kd.V_alloc | apply Kd.V_drewN | apply Kd.V_drew)); exact Kd.V_mono HO_0.out (fun _ hk => ⟨hk.1.1, ⟨hk.2, hk.1.2⟩⟩)⟩, ⟨by (with_reducible repeat (first | apply Kd.N_alloc | apply Kd.N_drewN | apply Kd.N_drew)); exact HO493.out⟩, ⟨by (with_reducible repeat (first | apply Kd.V_alloc | apply Kd.V_drewN | apply Kd.V_drew)); exact Kd.V_mono HO_485005.out (fun _ hk => ⟨hk.1.1, ⟨hk.2, hk.1.2⟩⟩)⟩, ⟨by refine bz_ ?_; exact BK484.out⟩, ⟨bw_q HB⟩⟩
      ·rw [if_neg c10] at H
       exact absurd H (by simp)
     ·replace c9 := Bool.eq_false_iff.mpr c9
      subst c9
      have H1 : (spec_l05Put.l0 k1 l0 x5_1 (wrap64 (x6_1 + 1)) a1_0 a1_1 a1_2 a1_3 a1_4 l1_5 a1_6 a1_7) = some r := by rw [if_neg (show ¬ (false = true) by decide)] at H; exact H
      clear H
      have H := H1
      clear H1
      have H' := Aside0.mk H
      clear H
      refine done_ (by kernel_rfl) ?_
      (try clear HS8_); (try clear HS9_); (try clear HS10_); (try clear HS11_); (try clear HS12_); (try clear HS13_); (try clear HS14_); (try clear HS15_); (try clear hHeld)
      try go_wp2
      go_roundg k1
      case measure => have := HK1.out; omega
      case rel => exact ⟨(x5_1), (wrap64 (x6_1 + 1)), (by first | rfl | (simp; done) | (simp [*]; done)), H', ⟨by have := HK1.out; omega⟩, ⟨by (with_reducible repeat (first | apply Kd.V_alloc | apply Kd.V_drewN | apply Kd.V_drew)); exact HO_0.out⟩, ⟨by (with_reducible repeat (first | apply Kd.N_alloc | apply Kd.N_drewN | apply Kd.N_drew)); exact HO_5.out⟩, ⟨by (with_reducible repeat (first | apply Kd.V_alloc | apply Kd.V_drewN | apply Kd.V_drew)); exact HO_485005.out⟩, ⟨by refine bz_ ?_; exact BK484.out⟩, ⟨bw_q HB⟩⟩
    ·rw [if_neg c7] at H
     exact absurd H (by simp)
   ·rw [if_neg c6] at H
    have c6b0 : decide (x6_1 < (l0.length : Int)) = false := decide_eq_false c6
    clear c6
    by_cases c16 : x5_1.length < 1759218604441
    ·rw [if_pos c16] at H
     have LMc16 := Aside0.mk c16
     clear c16
     obtain ⟨y494, hy494⟩ : ∃ y_ : List (S61), y_ = (x5_1 ++ [(⟨a1_0, a1_1, a1_2, a1_3, a1_4, l1_5, a1_6, a1_7⟩ : S61)]) := ⟨_, rfl⟩
     replace H : (spec_l05Put.l1 k1 l0 y494 0 a1_0 a1_1 a1_2 a1_3 a1_4 l1_5 a1_6 a1_7) = some r := by first | (rw [hy494]; with_reducible exact H) | (have H2_ := (Option.bind_some _ _).symm.trans H; rw [hy494]; with_reducible exact H2_) | (have H2_ := (Option.bind_some _ _).symm.trans H; with_reducible exact H2_) | with_reducible exact H | (rw [hy494]; exact H) | exact H
     have Ny494 := Aside0.mk hy494
     clear hy494
     have H' := Aside0.mk H
     clear H
     obtain ⟨hcz17_0, hcz17_1, hcz17_2, hcz17_3, hcz17_4, hcz17_5, hcz17_6, hcz17_7⟩ := cz8_ BK484
     obtain ⟨hfz17_0, hfz17_1, hfz17_2, hfz17_3, hfz17_4, hfz17_5, hfz17_6, hfz17_7⟩ := fz8_ BK484
     go_wp2_with (first | ((with_reducible refine gate_builtin (b := .append) (xs := #[.tmp 28, .tmp 30]) rfl ?_); at_builtin; refine Kd.N_append k61 (w0 := w) w.heap.size rfl (.tmp 28) (.tmp 30) 41 61 (.agg #[(.int .i64 0), (.int .i64 0), (.int .i64 0), (.int .i64 0), (.int .i64 0), (.slice none 0 0), (.int .i64 0), (.bool false)]) 80 rfl Try.underlying41 info61 rfl (by decide) (by omega) u5 x5_1 (⟨a1_0, a1_1, a1_2, a1_3, a1_4, l1_5, a1_6, a1_7⟩ : S61) [.int .i64 a1_0, .int .i64 a1_1, .int .i64 a1_2, .int .i64 a1_3, .int .i64 a1_4, .slice A1_5 l1_5.length c1_5, .int .i64 a1_6, .bool a1_7] (fun k_ => ((P0_ k_ ∨ P1_5_ k_) ∨ w.heap.size ≤ k_) ∧ k_ ≠ gb484) (fun k_ => ((fun k_ => ((P0_ k_ ∨ P1_5_ k_) ∨ w.heap.size ≤ k_) ∧ k_ ≠ gb484)) k_ ∧ some k_ ≠ (u5 : Value).ownBlock) rfl rfl ?aP (fun _ hk => hk) ?aF ?aO ?aB ?aS ?aL ?_; (case aP => exact (k61_mkF _ _ (⟨a1_0, a1_1, a1_2, a1_3, a1_4, l1_5, a1_6, a1_7⟩ : S61) (Kd.V_reads' (Kd.V_mono (ok' := (fun k_ => ((fun k_ => ((P0_ k_ ∨ P1_5_ k_) ∨ w.heap.size ≤ k_) ∧ k_ ≠ gb484)) k_ ∧ some k_ ≠ (u5 : Value).ownBlock)) (HO_485005.out) (fun k_ hk => ⟨⟨hk.1, hk.2.2⟩, hk.2.1⟩))).2.1 (Kd.V_F (Kd.V_mono (ok' := (fun k_ => ((fun k_ => ((P0_ k_ ∨ P1_5_ k_) ∨ w.heap.size ≤ k_) ∧ k_ ≠ gb484)) k_ ∧ some k_ ≠ (u5 : Value).ownBlock)) (HO_485005.out) (fun k_ hk => ⟨⟨hk.1, hk.2.2⟩, hk.2.1⟩))))); (case aB => exact (bw_q HB)); (case aF => exact (fun k_ hk => ⟨(.inr (Nat.le_trans (below_size (bw_q HB)) hk)), Kd.freshB (g := gb484) (o := .cells #[.int .i64 a1_0, .int .i64 a1_1, .int .i64 a1_2, .int .i64 a1_3, .int .i64 a1_4, .slice A1_5 l1_5.length c1_5, .int .i64 a1_6, .bool a1_7] 61 (0, 0)) (bk_q BK484) k_ hk⟩)); (case aO => exact (kN_q HO_5)); (case aS => exact (below_size (bw_q HB))); (case aL => have := LMc16.out; omega); intro v495 w18 ho hb hg hat; rw [← Ny494.out] at ho; replace HO_0 := Aside0.mk (Kd.V_afterv (ok := (fun k_ => ((P0_ k_ ∨ P1_5_ k_) ∨ w.heap.size ≤ k_) ∧ k_ ≠ gb484)) (by (with_reducible repeat (first | apply Kd.V_alloc | apply Kd.V_drewN | apply Kd.V_drew)); exact Kd.V_mono HO_0.out (fun _ hk => ⟨⟨hk.1, hk.2.2⟩, hk.2.1⟩)) hg hat); replace HO_485005 := Aside0.mk (Kd.V_afterv (ok := (fun k_ => ((P0_ k_ ∨ P1_5_ k_) ∨ w.heap.size ≤ k_) ∧ k_ ≠ gb484)) (by (with_reducible repeat (first | apply Kd.V_alloc | apply Kd.V_drewN | apply Kd.V_drew)); exact Kd.V_mono HO_485005.out (fun _ hk => ⟨⟨hk.1, hk.2.2⟩, hk.2.1⟩)) hg hat); replace BK484 := Aside0.mk (blk_grown (g := gb484) (o := .cells #[.int .i64 a1_0, .int .i64 a1_1, .int .i64 a1_2, .int .i64 a1_3, .int .i64 a1_4, .slice A1_5 l1_5.length c1_5, .int .i64 a1_6, .bool a1_7] 61 (0, 0)) (bk_q BK484) hg (Kd.N_away HO_5.out (fun _ hk => hk.2))); replace HB := Aside0.mk (hb); have HO496 := Aside0.mk (ho); clear HO_5; clear ho hb hg hat))
     go_loopg [5, 7] k1 (fun kq v5 v7 w' => ∃ (x5_2 : List (S61)) (x7_2 : Int), v7 = .int .i64 x7_2 ∧ Aside0 (spec_l05Put.l1 kq l0 x5_2 x7_2 a1_0 a1_1 a1_2 a1_3 a1_4 l1_5 a1_6 a1_7 = some r) ∧ Aside0 (kq ≤ k1) ∧ Aside0 (Kd.V k61 61 w' w.heap.size (fun k_ => ((P0_ k_ ∨ P1_5_ k_) ∨ w.heap.size ≤ k_) ∧ some k_ ≠ (v5 : Value).ownBlock ∧ k_ ≠ gb484) (.slice A0 l0.length c0) l0) ∧ Aside0 (Kd.N k61 61 w' w.heap.size (fun k_ => ((P0_ k_ ∨ P1_5_ k_) ∨ w.heap.size ≤ k_) ∧ k_ ≠ gb484) v5 x5_2) ∧ Aside0 (Kd.V k127 127 w' w.heap.size (fun k_ => ((P0_ k_ ∨ P1_5_ k_) ∨ w.heap.size ≤ k_) ∧ some k_ ≠ (v5 : Value).ownBlock ∧ k_ ≠ gb484) (.slice A1_5 l1_5.length c1_5) l1_5) ∧ Aside0 (w'.heap[gb484]? = some (.cells #[.int .i64 a1_0, .int .i64 a1_1, .int .i64 a1_2, .int .i64 a1_3, .int .i64 a1_4, (.slice A1_5 l1_5.length c1_5), .int .i64 a1_6, .bool a1_7] 61 (0, 0))) ∧ Aside0 (Below w.heap.size w w'))
     case atStart => exact ⟨(y494), (0), (by first | rfl | (simp; done) | (simp [*]; done)), H', ⟨Nat.le_refl _⟩, ⟨by (with_reducible repeat (first | apply Kd.V_alloc | apply Kd.V_drewN | apply Kd.V_drew)); exact Kd.V_mono HO_0.out (fun _ hk => ⟨hk.1.1, ⟨hk.2, hk.1.2⟩⟩)⟩, ⟨by (with_reducible repeat (first | apply Kd.N_alloc | apply Kd.N_drewN | apply Kd.N_drew)); exact HO496.out⟩, ⟨by (with_reducible repeat (first | apply Kd.V_alloc | apply Kd.V_drewN | apply Kd.V_drew)); exact Kd.V_mono HO_485005.out (fun _ hk => ⟨hk.1.1, ⟨hk.2, hk.1.2⟩⟩)⟩, ⟨by refine bz_ ?_; exact BK484.out⟩, ⟨bw_q HB⟩⟩
     case round =>
      clear H'
      try clear c1
      try clear p2
      try clear c4
      try clear p4
      try clear q4
      try clear hx4
      try clear c6
      try clear c6b0
      try clear p6
      try clear c7
      try clear c7b0
      try clear c9
      try clear c10
      try clear c13
      try clear c16
      try clear hcz17_0
      try clear hcz17_1
      try clear hcz17_2
      try clear hcz17_3
      try clear hcz17_4
      try clear hcz17_5
      try clear hcz17_6
      try clear hcz17_7
      try clear hfz17_0
      try clear hfz17_1
      try clear hfz17_2
      try clear hfz17_3
      try clear hfz17_4
      try clear hfz17_5
      try clear hfz17_6
      try clear hfz17_7
      try clear hx488_0
      try clear hx488_1
      try clear hx488_2
      try clear hx488_3
      try clear hx488_4
      try clear hx488_5
      try clear hx488_6
      try clear hx488_7
      try clear hx490_0
      try clear hx490_1
      try clear hx490_2
      try clear hx490_3
      try clear hx490_4
      try clear hx490_5
      try clear hx490_6
      try clear hx490_7
      try clear p2
      try clear p488
      try clear p490
      try clear q488
      try clear q490
      obtain ⟨x5_2, x7_2, rfl, HA, HK2, HO_0, HO_5, HO_485005, BK484, HB⟩ := hrel
      cases gk with
      | zero => exact absurd HA.out (by simp [spec_l05Put.l1])
      | succ k2 =>
       have H := HA.out
       clear HA
       simp only [spec_l05Put.l1] at H
       by_cases c19 : x7_2 < (l0.length : Int)
       ·rw [if_pos c19] at H
        have c19b0 : decide (x7_2 < (l0.length : Int)) = true := decide_eq_true c19
        clear c19
        by_cases c20 : 0 ≤ x7_2
        ·rw [if_pos c20] at H
         have c20b0 : decide (0 ≤ x7_2) = true := decide_eq_true c20
         clear c20
         replace H := Option.bind_eq_some_iff.mp H
         obtain ⟨t498, A210, H⟩ := H
         replace H : (if t498 = true then (if x5_2.length < 1759218604441 then (spec_l05Put.l1 k2 l0 (x5_2 ++ [(⟨(rd_T61 l0 x7_2).f0, (rd_T61 l0 x7_2).f1, (rd_T61 l0 x7_2).f2, (rd_T61 l0 x7_2).f3, (rd_T61 l0 x7_2).f4, (rd_T61 l0 x7_2).f5, (rd_T61 l0 x7_2).f6, (rd_T61 l0 x7_2).f7⟩ : S61)]) (wrap64 (x7_2 + 1)) a1_0 a1_1 a1_2 a1_3 a1_4 l1_5 a1_6 a1_7) else (none)) else (spec_l05Put.l1 k2 l0 x5_2 (wrap64 (x7_2 + 1)) a1_0 a1_1 a1_2 a1_3 a1_4 l1_5 a1_6 a1_7)) = some r := H
         have A21 := Aside0.mk A210
         clear A210
         have HZ55 := Aside0.mk H
         clear H
         try go_wp2
         replace HO_0 := Aside0.mk (Kd.V_drew HO_0.out)
         replace HO_5 := Aside0.mk (Kd.N_drew HO_5.out)
         replace HO_485005 := Aside0.mk (Kd.V_drew HO_485005.out)
         replace BK484 := Aside0.mk (blk_drew BK484.out)
         replace HB := Aside0.mk (below_drew1 HB.out)
         have p497 : 0 ≤ (x7_2 : Int) := of_decide_eq_true as_q
         have q497 : x7_2 < (l0.length : Int) := of_decide_eq_true as_q
         obtain ⟨ad497, A497_5, c497_5, e497, hx497_0, hx497_1, hx497_2, hx497_3, hx497_4, hx497_5, hx497_6, hx497_7, hl497_5, hi497_5⟩ := at_T61 (Kd.V_reads' HO_0.out).2.2 x7_2 p497 q497
         cases e497
         obtain ⟨ce497, hce497, hMe497, hcc497⟩ := Kd.V_get HO_0.out z61 x7_2 p497 (by first | exact q497 | exact of_decide_eq_true as_q | (have e_ := (Kd.V_reads' HO_0.out).1; omega))
         obtain ⟨ua497_5, uc497_5, rfl, ul497_5, ge497_5⟩ := k61_openF hMe497
         have hv497_5 := hcc497 5 _ rfl
         rw [add_field _ _ 5 (by omega)] at hv497_5
         replace hv497_5 := Option.some.inj (hv497_5.symm.trans hx497_5)
         injection hv497_5 with hva_ hvn_ hvc_
         rw [hva_] at ge497_5
         rw [hvc_] at ul497_5
         have HL497_5 := Aside0.mk (show Kd.V k127 127 _ w.heap.size _ _ ((rd_T61 l0 x7_2).f5) from Kd.V_mk ul497_5 ge497_5)
         clear hva_ hvn_ hvc_ ge497_5 ul497_5
         clear hcc497 hce497
         have HR497_5 := Aside0.mk hi497_5
         have HC497_5 := Aside0.mk hl497_5
         clear hi497_5 hl497_5
         replace p497 := eq_true p497
         replace q497 := eq_true q497
         refine start_ (n := 6) (S := fun w' => w'.cell? ⟨gb484, 0, none⟩ = some (.int .i64 a1_0) ∧ w'.cell? ⟨gb484, 1, none⟩ = some (.int .i64 a1_1) ∧ w'.cell? ⟨gb484, 2, none⟩ = some (.int .i64 a1_2) ∧ w'.cell? ⟨gb484, 3, none⟩ = some (.int .i64 a1_3) ∧ w'.cell? ⟨gb484, 4, none⟩ = some (.int .i64 a1_4) ∧ w'.cell? ⟨gb484, 5, none⟩ = some (.slice A1_5 l1_5.length c1_5) ∧ w'.cell? ⟨gb484, 6, none⟩ = some (.int .i64 a1_6) ∧ w'.cell? ⟨gb484, 7, none⟩ = some (.bool a1_7) ∧ w'.cell? (ad497.add ((x7_2).toNat * 8)) = some (.int .i64 ((rd_T61 l0 x7_2).f0)) ∧ w'.cell? ⟨(ad497.add ((x7_2).toNat * 8)).block, (ad497.add ((x7_2).toNat * 8)).off + 1, none⟩ = some (.int .i64 ((rd_T61 l0 x7_2).f1)) ∧ w'.cell? ⟨(ad497.add ((x7_2).toNat * 8)).block, (ad497.add ((x7_2).toNat * 8)).off + 2, none⟩ = some (.int .i64 ((rd_T61 l0 x7_2).f2)) ∧ w'.cell? ⟨(ad497.add ((x7_2).toNat * 8)).block, (ad497.add ((x7_2).toNat * 8)).off + 3, none⟩ = some (.int .i64 ((rd_T61 l0 x7_2).f3)) ∧ w'.cell? ⟨(ad497.add ((x7_2).toNat * 8)).block, (ad497.add ((x7_2).toNat * 8)).off + 4, none⟩ = some (.int .i64 ((rd_T61 l0 x7_2).f4)) ∧ w'.cell? ⟨(ad497.add ((x7_2).toNat * 8)).block, (ad497.add ((x7_2).toNat * 8)).off + 5, none⟩ = some (.slice A497_5 ((rd_T61 l0 x7_2).f5).length c497_5) ∧ w'.cell? ⟨(ad497.add ((x7_2).toNat * 8)).block, (ad497.add ((x7_2).toNat * 8)).off + 6, none⟩ = some (.int .i64 ((rd_T61 l0 x7_2).f6)) ∧ w'.cell? ⟨(ad497.add ((x7_2).toNat * 8)).block, (ad497.add ((x7_2).toNat * 8)).off + 7, none⟩ = some (.bool ((rd_T61 l0 x7_2).f7))) (ds := []) (bL 6 0) (by kernel_rfl) rfl rfl ⟨(blk_cell BK484.out 0).trans rfl, (blk_cell BK484.out 1).trans rfl, (blk_cell BK484.out 2).trans rfl, (blk_cell BK484.out 3).trans rfl, (blk_cell BK484.out 4).trans rfl, (blk_cell BK484.out 5).trans rfl, (blk_cell BK484.out 6).trans rfl, (blk_cell BK484.out 7).trans rfl, hx497_0, hx497_1, hx497_2, hx497_3, hx497_4, hx497_5, hx497_6, hx497_7⟩ (fun hHeld => ?_)
         generalize wr.drew = w24 at HO_0 HO_5 HO_485005 BK484 HB HL497_5 HR497_5 hx497_0 hx497_1 hx497_2 hx497_3 hx497_4 hx497_5 hx497_6 hx497_7 hHeld ⊢
         refine pr_ 1 39 (bL 6 2) rfl rfl ?_
         refine pr_ 2 40 (bL 6 6) rfl rfl ?_
         refine pr_ 3 41 (bL 6 14) rfl rfl ?_
         refine take_ (i := 0) (N := some 38) (v := ?_) (a' := ?_) (bL 6 15) rfl rfl (by kernel_rfl) (fun _ _ _ h => h) (Or.inl ⟨by rfl, ?_⟩) hHeld ?_ ?_; rotate_left; (rintro w' ⟨s0, s1, s2, s3, s4, s5, s6, s7, s8, s9, s10, s11, s12, s13, s14, s15⟩; go_simp; with_reducible rfl); rotate_left; (exact put_q)
         refine take_ (i := 4) (N := some 42) (v := ?_) (a' := ?_) (bL 6 31) rfl rfl (by kernel_rfl) (fun _ _ _ h => h) (Or.inl ⟨by rfl, ?_⟩) hHeld ?_ ?_; rotate_left; (rintro w' ⟨s0, s1, s2, s3, s4, s5, s6, s7, s8, s9, s10, s11, s12, s13, s14, s15⟩; go_simp; with_reducible rfl); rotate_left; (exact put_q)
         refine one_ (i := 5) (N := some 43) (bL 6 63) rfl rfl (by kernel_rfl) (by decide) (fun K hK => ?_)
         refine goes_ Try.func72 (by kernel_rfl) rfl #[.agg #[.int .i64 a1_0, .int .i64 a1_1, .int .i64 a1_2, .int .i64 a1_3, .int .i64 a1_4, .slice A1_5 l1_5.length c1_5, .int .i64 a1_6, .bool a1_7], .agg #[.int .i64 ((rd_T61 l0 x7_2).f0), .int .i64 ((rd_T61 l0 x7_2).f1), .int .i64 ((rd_T61 l0 x7_2).f2), .int .i64 ((rd_T61 l0 x7_2).f3), .int .i64 ((rd_T61 l0 x7_2).f4), .slice A497_5 ((rd_T61 l0 x7_2).f5).length c497_5, .int .i64 ((rd_T61 l0 x7_2).f6), .bool ((rd_T61 l0 x7_2).f7)]] (by rfl) rfl rfl mp_q ?_
         with_reducible refine (spec_Before.calls a1_0 a1_1 a1_2 a1_3 a1_4 _ _ l1_5 a1_6 a1_7 ((rd_T61 l0 x7_2).f0) ((rd_T61 l0 x7_2).f1) ((rd_T61 l0 x7_2).f2) ((rd_T61 l0 x7_2).f3) ((rd_T61 l0 x7_2).f4) _ _ ((rd_T61 l0 x7_2).f5) ((rd_T61 l0 x7_2).f6) ((rd_T61 l0 x7_2).f7) t498 _ ?side1 ?side2 ?side3 ?side4 A21.out).mono ?_
         (case side1 => repeat (first | exact (Kd.V_reads' HO_485005.out).2.2 | (with_reducible refine Kd.C_alloc ?_ _) | (with_reducible refine Kd.C_drewN ?_ _) | (with_reducible refine Kd.C_drew ?_)))
         (case side2 => exact (Kd.V_reads' HO_485005.out).2.1)
         (case side3 => repeat (first | exact (by repeat (first | (with_reducible exact HR497_5.out) | (with_reducible refine Kd.C_alloc ?_ _) | (with_reducible refine Kd.C_drewN ?_ _) | (with_reducible refine Kd.C_drew ?_) | exact HR497_5.out)) | (with_reducible refine Kd.C_alloc ?_ _) | (with_reducible refine Kd.C_drewN ?_ _) | (with_reducible refine Kd.C_drew ?_)))
         (case side4 => exact HC497_5.out)
         rintro e w25 ⟨rfl, hb⟩
         have HS8_ := (hb.cell (World.block_lt_of_cell? _ _ (hHeld.2.2.2.2.2.2.2.2.1))).trans (hHeld.2.2.2.2.2.2.2.2.1)
         have HS9_ := (hb.cell (World.block_lt_of_cell? _ _ (hHeld.2.2.2.2.2.2.2.2.2.1))).trans (hHeld.2.2.2.2.2.2.2.2.2.1)
         have HS10_ := (hb.cell (World.block_lt_of_cell? _ _ (hHeld.2.2.2.2.2.2.2.2.2.2.1))).trans (hHeld.2.2.2.2.2.2.2.2.2.2.1)
         have HS11_ := (hb.cell (World.block_lt_of_cell? _ _ (hHeld.2.2.2.2.2.2.2.2.2.2.2.1))).trans (hHeld.2.2.2.2.2.2.2.2.2.2.2.1)
         have HS12_ := (hb.cell (World.block_lt_of_cell? _ _ (hHeld.2.2.2.2.2.2.2.2.2.2.2.2.1))).trans (hHeld.2.2.2.2.2.2.2.2.2.2.2.2.1)
         have HS13_ := (hb.cell (World.block_lt_of_cell? _ _ (hHeld.2.2.2.2.2.2.2.2.2.2.2.2.2.1))).trans (hHeld.2.2.2.2.2.2.2.2.2.2.2.2.2.1)
         have HS14_ := (hb.cell (World.block_lt_of_cell? _ _ (hHeld.2.2.2.2.2.2.2.2.2.2.2.2.2.2.1))).trans (hHeld.2.2.2.2.2.2.2.2.2.2.2.2.2.2.1)
         have HS15_ := (hb.cell (World.block_lt_of_cell? _ _ (hHeld.2.2.2.2.2.2.2.2.2.2.2.2.2.2.2))).trans (hHeld.2.2.2.2.2.2.2.2.2.2.2.2.2.2.2)
         refine ⟨_, rfl, ?_⟩
         replace HO_0 := Aside0.mk (Kd.V_below (kV_q HO_0) hb)
         replace HO_5 := Aside0.mk (Kd.N_below (kN_q HO_5) hb)
         replace HO_485005 := Aside0.mk (Kd.V_below (kV_q HO_485005) hb)
         replace HL497_5 := Aside0.mk (Kd.V_below (kV_q HL497_5) hb)
         replace BK484 := Aside0.mk (blk_below (g := gb484) (bk_q BK484) hb)
         replace HR497_5 := Aside0.mk (Kd.C_below (by repeat (first | (with_reducible exact HR497_5.out) | (with_reducible refine Kd.C_alloc ?_ _) | (with_reducible refine Kd.C_drewN ?_ _) | (with_reducible refine Kd.C_drew ?_) | exact HR497_5.out)) hb)
         replace HB := Aside0.mk (below_step (bw_q HB) hb)
         (try clear hb)
         (try clear hb2)
         (try clear hk)
         (try clear hi)
         refine hK.out _ _ ⟨(blk_cell BK484.out 0).trans rfl, (blk_cell BK484.out 1).trans rfl, (blk_cell BK484.out 2).trans rfl, (blk_cell BK484.out 3).trans rfl, (blk_cell BK484.out 4).trans rfl, (blk_cell BK484.out 5).trans rfl, (blk_cell BK484.out 6).trans rfl, (blk_cell BK484.out 7).trans rfl, HS8_, HS9_, HS10_, HS11_, HS12_, HS13_, HS14_, HS15_⟩ (fun hHeld => ?_)
         clear hK K
         refine norm_ (a' := ?_) ?_ ?_; rotate_left; (show Act.put _ (some 43) _ = _; simp only [Act.put, List.setIfInBounds_toArray, List.set_cons_zero, List.set_cons_succ, i64_w, i32_w]; rfl)
         have H := HZ55.out
         clear HZ55
         by_cases c22 : t498 = true
         ·subst c22
          have H1 : (if x5_2.length < 1759218604441 then (spec_l05Put.l1 k2 l0 (x5_2 ++ [(⟨(rd_T61 l0 x7_2).f0, (rd_T61 l0 x7_2).f1, (rd_T61 l0 x7_2).f2, (rd_T61 l0 x7_2).f3, (rd_T61 l0 x7_2).f4, (rd_T61 l0 x7_2).f5, (rd_T61 l0 x7_2).f6, (rd_T61 l0 x7_2).f7⟩ : S61)]) (wrap64 (x7_2 + 1)) a1_0 a1_1 a1_2 a1_3 a1_4 l1_5 a1_6 a1_7) else (none)) = some r := by rw [if_pos rfl] at H; exact H
          clear H
          have H := H1
          clear H1
          by_cases c23 : x5_2.length < 1759218604441
          ·rw [if_pos c23] at H
           have LMc23 := Aside0.mk c23
           clear c23
           obtain ⟨y500, hy500⟩ : ∃ y_ : List (S61), y_ = (x5_2 ++ [(⟨(rd_T61 l0 x7_2).f0, (rd_T61 l0 x7_2).f1, (rd_T61 l0 x7_2).f2, (rd_T61 l0 x7_2).f3, (rd_T61 l0 x7_2).f4, (rd_T61 l0 x7_2).f5, (rd_T61 l0 x7_2).f6, (rd_T61 l0 x7_2).f7⟩ : S61)]) := ⟨_, rfl⟩
           replace H : (spec_l05Put.l1 k2 l0 y500 (wrap64 (x7_2 + 1)) a1_0 a1_1 a1_2 a1_3 a1_4 l1_5 a1_6 a1_7) = some r := by first | (rw [hy500]; with_reducible exact H) | (have H2_ := (Option.bind_some _ _).symm.trans H; rw [hy500]; with_reducible exact H2_) | (have H2_ := (Option.bind_some _ _).symm.trans H; with_reducible exact H2_) | with_reducible exact H | (rw [hy500]; exact H) | exact H
           have Ny500 := Aside0.mk hy500
           clear hy500
           have H' := Aside0.mk H
           clear H
           refine done_ (by kernel_rfl) ?_
           (try clear HS8_); (try clear HS9_); (try clear HS10_); (try clear HS11_); (try clear HS12_); (try clear HS13_); (try clear HS14_); (try clear HS15_); (try clear hHeld)
           have p499 : 0 ≤ (x7_2 : Int) := of_decide_eq_true as_q
           have q499 : x7_2 < (l0.length : Int) := of_decide_eq_true as_q
           obtain ⟨ad499, A499_5, c499_5, e499, hx499_0, hx499_1, hx499_2, hx499_3, hx499_4, hx499_5, hx499_6, hx499_7, hl499_5, hi499_5⟩ := at_T61 (Kd.V_reads' HO_0.out).2.2 x7_2 p499 q499
           obtain rfl : ad497 = ad499 := (by injection e499)
           obtain ⟨ce499, hce499, hMe499, hcc499⟩ := Kd.V_get HO_0.out z61 x7_2 p499 (by first | exact q499 | exact of_decide_eq_true as_q | (have e_ := (Kd.V_reads' HO_0.out).1; omega))
           obtain ⟨ua499_5, uc499_5, rfl, ul499_5, ge499_5⟩ := k61_openF hMe499
           have hv499_5 := hcc499 5 _ rfl
           rw [add_field _ _ 5 (by omega)] at hv499_5
           replace hv499_5 := Option.some.inj (hv499_5.symm.trans hx499_5)
           injection hv499_5 with hva_ hvn_ hvc_
           rw [hva_] at ge499_5
           rw [hvc_] at ul499_5
           have HL499_5 := Aside0.mk (show Kd.V k127 127 _ w.heap.size _ _ ((rd_T61 l0 x7_2).f5) from Kd.V_mk ul499_5 ge499_5)
           clear hva_ hvn_ hvc_ ge499_5 ul499_5
           clear hcc499 hce499
           have HR499_5 := Aside0.mk hi499_5
           have HC499_5 := Aside0.mk hl499_5
           clear hi499_5 hl499_5
           replace p499 := eq_true p499
           replace q499 := eq_true q499
           try go_wp2_with (first | ((with_reducible refine gate_builtin (b := .append) (xs := #[.tmp 44, .tmp 49]) rfl ?_); at_builtin; refine Kd.N_append k61 (w0 := w) w.heap.size rfl (.tmp 44) (.tmp 49) 41 61 (.agg #[(.int .i64 0), (.int .i64 0), (.int .i64 0), (.int .i64 0), (.int .i64 0), (.slice none 0 0), (.int .i64 0), (.bool false)]) 80 rfl Try.underlying41 info61 rfl (by decide) (by omega) u5 x5_2 (⟨(rd_T61 l0 x7_2).f0, (rd_T61 l0 x7_2).f1, (rd_T61 l0 x7_2).f2, (rd_T61 l0 x7_2).f3, (rd_T61 l0 x7_2).f4, (rd_T61 l0 x7_2).f5, (rd_T61 l0 x7_2).f6, (rd_T61 l0 x7_2).f7⟩ : S61) [.int .i64 ((rd_T61 l0 x7_2).f0), .int .i64 ((rd_T61 l0 x7_2).f1), .int .i64 ((rd_T61 l0 x7_2).f2), .int .i64 ((rd_T61 l0 x7_2).f3), .int .i64 ((rd_T61 l0 x7_2).f4), .slice A499_5 ((rd_T61 l0 x7_2).f5).length c499_5, .int .i64 ((rd_T61 l0 x7_2).f6), .bool ((rd_T61 l0 x7_2).f7)] (fun k_ => ((P0_ k_ ∨ P1_5_ k_) ∨ w.heap.size ≤ k_) ∧ k_ ≠ gb484) (fun k_ => ((fun k_ => ((P0_ k_ ∨ P1_5_ k_) ∨ w.heap.size ≤ k_) ∧ k_ ≠ gb484)) k_ ∧ some k_ ≠ (u5 : Value).ownBlock) rfl rfl ?aP (fun _ hk => hk) ?aF ?aO ?aB ?aS ?aL ?_; (case aP => exact (k61_mkF _ _ (⟨(rd_T61 l0 x7_2).f0, (rd_T61 l0 x7_2).f1, (rd_T61 l0 x7_2).f2, (rd_T61 l0 x7_2).f3, (rd_T61 l0 x7_2).f4, (rd_T61 l0 x7_2).f5, (rd_T61 l0 x7_2).f6, (rd_T61 l0 x7_2).f7⟩ : S61) (Kd.V_reads' (Kd.V_mono (ok' := (fun k_ => ((fun k_ => ((P0_ k_ ∨ P1_5_ k_) ∨ w.heap.size ≤ k_) ∧ k_ ≠ gb484)) k_ ∧ some k_ ≠ (u5 : Value).ownBlock)) (HL499_5.out) (fun k_ hk => ⟨⟨hk.1, hk.2.2⟩, hk.2.1⟩))).2.1 (Kd.V_F (Kd.V_mono (ok' := (fun k_ => ((fun k_ => ((P0_ k_ ∨ P1_5_ k_) ∨ w.heap.size ≤ k_) ∧ k_ ≠ gb484)) k_ ∧ some k_ ≠ (u5 : Value).ownBlock)) (HL499_5.out) (fun k_ hk => ⟨⟨hk.1, hk.2.2⟩, hk.2.1⟩))))); (case aB => exact (bw_q HB)); (case aF => exact (fun k_ hk => ⟨(.inr (Nat.le_trans (below_size (bw_q HB)) hk)), Kd.freshB (g := gb484) (o := .cells #[.int .i64 a1_0, .int .i64 a1_1, .int .i64 a1_2, .int .i64 a1_3, .int .i64 a1_4, .slice A1_5 l1_5.length c1_5, .int .i64 a1_6, .bool a1_7] 61 (0, 0)) (bk_q BK484) k_ hk⟩)); (case aO => exact (kN_q HO_5)); (case aS => exact (below_size (bw_q HB))); (case aL => have := LMc23.out; omega); intro v501 w26 ho hb hg hat; rw [← Ny500.out] at ho; replace HO_0 := Aside0.mk (Kd.V_afterv (ok := (fun k_ => ((P0_ k_ ∨ P1_5_ k_) ∨ w.heap.size ≤ k_) ∧ k_ ≠ gb484)) (by (with_reducible repeat (first | apply Kd.V_alloc | apply Kd.V_drewN | apply Kd.V_drew)); exact Kd.V_mono HO_0.out (fun _ hk => ⟨⟨hk.1, hk.2.2⟩, hk.2.1⟩)) hg hat); replace HO_485005 := Aside0.mk (Kd.V_afterv (ok := (fun k_ => ((P0_ k_ ∨ P1_5_ k_) ∨ w.heap.size ≤ k_) ∧ k_ ≠ gb484)) (by (with_reducible repeat (first | apply Kd.V_alloc | apply Kd.V_drewN | apply Kd.V_drew)); exact Kd.V_mono HO_485005.out (fun _ hk => ⟨⟨hk.1, hk.2.2⟩, hk.2.1⟩)) hg hat); replace BK484 := Aside0.mk (blk_grown (g := gb484) (o := .cells #[.int .i64 a1_0, .int .i64 a1_1, .int .i64 a1_2, .int .i64 a1_3, .int .i64 a1_4, .slice A1_5 l1_5.length c1_5, .int .i64 a1_6, .bool a1_7] 61 (0, 0)) (bk_q BK484) hg (Kd.N_away HO_5.out (fun _ hk => hk.2))); replace HL497_5 := Aside0.mk (Kd.V_afterv (ok := (fun k_ => ((P0_ k_ ∨ P1_5_ k_) ∨ w.heap.size ≤ k_) ∧ k_ ≠ gb484)) (by (with_reducible repeat (first | apply Kd.V_alloc | apply Kd.V_drewN | apply Kd.V_drew)); exact Kd.V_mono HL497_5.out (fun _ hk => ⟨⟨hk.1, hk.2.2⟩, hk.2.1⟩)) hg hat); replace HL499_5 := Aside0.mk (Kd.V_afterv (ok := (fun k_ => ((P0_ k_ ∨ P1_5_ k_) ∨ w.heap.size ≤ k_) ∧ k_ ≠ gb484)) (by (with_reducible repeat (first | apply Kd.V_alloc | apply Kd.V_drewN | apply Kd.V_drew)); exact Kd.V_mono HL499_5.out (fun _ hk => ⟨⟨hk.1, hk.2.2⟩, hk.2.1⟩)) hg hat); replace HB := Aside0.mk (hb); have HO502 := Aside0.mk (ho); clear HO_5; clear ho hb hg hat))
           go_roundg k2
           case measure => have := HK1.out; have := HK2.out; omega
           case rel => exact ⟨(y500), (wrap64 (x7_2 + 1)), (by first | rfl | (simp; done) | (simp [*]; done)), H', ⟨by have := HK1.out; have := HK2.out; omega⟩, ⟨by (with_reducible repeat (first | apply Kd.V_alloc | apply Kd.V_drewN | apply Kd.V_drew)); exact Kd.V_mono HO_0.out (fun _ hk => ⟨hk.1.1, ⟨hk.2, hk.1.2⟩⟩)⟩, ⟨by (with_reducible repeat (first | apply Kd.N_alloc | apply Kd.N_drewN | apply Kd.N_drew)); exact HO502.out⟩, ⟨by (with_reducible repeat (first | apply Kd.V_alloc | apply Kd.V_drewN | apply Kd.V_drew)); exact Kd.V_mono HO_485005.out (fun _ hk => ⟨hk.1.1, ⟨hk.2, hk.1.2⟩⟩)⟩, ⟨by refine bz_ ?_; exact BK484.out⟩, ⟨bw_q HB⟩⟩
          ·rw [if_neg c23] at H
           exact absurd H (by simp)
         ·replace c22 := Bool.eq_false_iff.mpr c22
          subst c22
          have H1 : (spec_l05Put.l1 k2 l0 x5_2 (wrap64 (x7_2 + 1)) a1_0 a1_1 a1_2 a1_3 a1_4 l1_5 a1_6 a1_7) = some r := by rw [if_neg (show ¬ (false = true) by decide)] at H; exact H
          clear H
          have H := H1
          clear H1
          have H' := Aside0.mk H
          clear H
          refine done_ (by kernel_rfl) ?_
          (try clear HS8_); (try clear HS9_); (try clear HS10_); (try clear HS11_); (try clear HS12_); (try clear HS13_); (try clear HS14_); (try clear HS15_); (try clear hHeld)
          try go_wp2
          go_roundg k2
          case measure => have := HK1.out; have := HK2.out; omega
          case rel => exact ⟨(x5_2), (wrap64 (x7_2 + 1)), (by first | rfl | (simp; done) | (simp [*]; done)), H', ⟨by have := HK1.out; have := HK2.out; omega⟩, ⟨by (with_reducible repeat (first | apply Kd.V_alloc | apply Kd.V_drewN | apply Kd.V_drew)); exact HO_0.out⟩, ⟨by (with_reducible repeat (first | apply Kd.N_alloc | apply Kd.N_drewN | apply Kd.N_drew)); exact HO_5.out⟩, ⟨by (with_reducible repeat (first | apply Kd.V_alloc | apply Kd.V_drewN | apply Kd.V_drew)); exact HO_485005.out⟩, ⟨by refine bz_ ?_; exact BK484.out⟩, ⟨bw_q HB⟩⟩
        ·rw [if_neg c20] at H
         exact absurd H (by simp)
       ·rw [if_neg c19] at H
        have c19b0 : decide (x7_2 < (l0.length : Int)) = false := decide_eq_false c19
        clear c19
        obtain rfl := Option.some.inj H
        go_wp2
        go_ret
        exact ⟨_, er_q, by (with_reducible repeat (first | apply Kd.N_alloc | apply Kd.N_drewN | apply Kd.N_drew)); exact Kd.N_mono HO_5.out (fun _ hk => hk.1), bw_q HB⟩
    ·rw [if_neg c16] at H
     exact absurd H (by simp)

end Go.Proofs.Ythjmdiggglkeaaa.Q
