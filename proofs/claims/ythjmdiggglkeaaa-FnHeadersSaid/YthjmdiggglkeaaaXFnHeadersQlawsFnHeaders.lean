import Derived.Test.YthjmdiggglkeaaaXFnHeadersQspecScope
import Derived.Test.YthjmdiggglkeaaaXFnHeadersQlawsbig
import Derived.Test.YthjmdiggglkeaaaXFnHeadersQspecDrawStores
import Derived.Test.YthjmdiggglkeaaaXFnHeadersQspecNewer
import Derived.Test.YthjmdiggglkeaaaXFnHeadersQimplPacketOk
/- A Go function as a Lean function, and its contract: for every input the Go code comes to what the Lean function tells. -/







namespace Go.Proofs.Ythjmdiggglkeaaa.Q
open Go.RowKit Go.Proofs.YthjmdiggglkeaaaW.PrintWords Go.Proofs.YthjmdiggglkeaaaW.PrintLast Go.Proofs.YthjmdiggglkeaaaW.PrintMore
attribute [local go_sem] max2_int min2_int max_two min_two max_three min_three max_four min_four   -- for this text's walks alone
set_option linter.unusedVariables false
set_option linter.unusedSimpArgs false

/-! ### laws_FnHeaders: function 12 -/
mutual
def laws_FnHeaders.l0 : Nat → List (S61) → Int → Option (Bool)
 | 0, _, _ => none
 | k + 1, x3, x5 => if x5 ≤ 2 then ((impl_Headers.f k x3 x5).bind fun t1566 => ((spec_Scope.f k x3 x5).bind fun t1569 => ((spec_Newer.f k t1566 t1569).bind fun t1572 => (if (t1572.length : Int) = 0 then ((spec_Newer.f k t1569 t1566).bind fun t1575 => (if (t1575.length : Int) = 0 then (laws_FnHeaders.j1 k x3 x5 t1566 ((t1566.length : Int) != (t1569.length : Int))) else (laws_FnHeaders.j1 k x3 x5 t1566 true))) else (laws_FnHeaders.j1 k x3 x5 t1566 true))))) else ((impl_PacketOk.f k 2 1 1 0 ([] : List Int) ([] : List (S61))).bind fun t1565 => (some (!t1565)))
def laws_FnHeaders.j1 : Nat → List (S61) → Int → List (S61) → Bool → Option (Bool)
 | 0, _, _, _, _ => none
 | k + 1, x3, x5, x6, x43 => if x43 = true then (some false) else ((impl_PacketOk.f k 2 1 2 x5 ([] : List Int) x6).bind fun t1578 => (if t1578 = true then (laws_FnHeaders.l0 k x3 (wrap64 (x5 + 1))) else (some false)))
end
def laws_FnHeaders.f (k : Nat) (l0 : List Int) : Option (Bool) := (laws_big.f l0).bind fun t1558 => (if t1558 = true then (some true) else ((spec_DrawStores.f k l0).bind fun bt1559 => (laws_FnHeaders.l0 k bt1559.1 0)))
theorem laws_FnHeaders.mono_l : ∀ k, (∀ y0 y1, LeO (laws_FnHeaders.l0 k y0 y1) (laws_FnHeaders.l0 (k + 1) y0 y1)) ∧ (∀ y0 y1 y2 y3, LeO (laws_FnHeaders.j1 k y0 y1 y2 y3) (laws_FnHeaders.j1 (k + 1) y0 y1 y2 y3))
 | 0 => ⟨fun _ _ r h => by simp [laws_FnHeaders.l0] at h, fun _ _ _ _ r h => by simp [laws_FnHeaders.j1] at h⟩
 | k + 1 => by
  obtain ⟨ih0, ih1⟩ := laws_FnHeaders.mono_l k
  refine ⟨?_, ?_⟩
  ·intro y0 y1
   unfold laws_FnHeaders.l0
   repeat' first
   | (with_reducible exact ih0 _ _)
   | (with_reducible exact ih1 _ _ _ _)
   | (with_reducible exact impl_Headers.mono _ _ _)
   | (with_reducible exact impl_PacketOk.mono _ _ _ _ _ _ _)
   | (with_reducible exact spec_DrawStores.mono _ _)
   | (with_reducible exact spec_Newer.mono _ _ _)
   | (with_reducible exact spec_Scope.mono _ _ _)
   | (with_reducible exact LeO.refl _)
   | (with_reducible exact LeO.none _)
   | (with_reducible refine LeO.ite ?_ ?_)
   | (with_reducible refine LeO.bind ?_ (fun _ => ?_))
   | exact ih0 _ _
   | exact ih1 _ _ _ _
   | exact impl_Headers.mono _ _ _
   | exact impl_PacketOk.mono _ _ _ _ _ _ _
   | exact spec_DrawStores.mono _ _
   | exact spec_Newer.mono _ _ _
   | exact spec_Scope.mono _ _ _
   | exact LeO.none _
   | refine LeO.ite ?_ ?_
   | refine LeO.bind ?_ (fun _ => ?_)
  ·intro y0 y1 y2 y3
   unfold laws_FnHeaders.j1
   repeat' first
   | (with_reducible exact ih0 _ _)
   | (with_reducible exact ih1 _ _ _ _)
   | (with_reducible exact impl_Headers.mono _ _ _)
   | (with_reducible exact impl_PacketOk.mono _ _ _ _ _ _ _)
   | (with_reducible exact spec_DrawStores.mono _ _)
   | (with_reducible exact spec_Newer.mono _ _ _)
   | (with_reducible exact spec_Scope.mono _ _ _)
   | (with_reducible exact LeO.refl _)
   | (with_reducible exact LeO.none _)
   | (with_reducible refine LeO.ite ?_ ?_)
   | (with_reducible refine LeO.bind ?_ (fun _ => ?_))
   | exact ih0 _ _
   | exact ih1 _ _ _ _
   | exact impl_Headers.mono _ _ _
   | exact impl_PacketOk.mono _ _ _ _ _ _ _
   | exact spec_DrawStores.mono _ _
   | exact spec_Newer.mono _ _ _
   | exact spec_Scope.mono _ _ _
   | exact LeO.none _
   | refine LeO.ite ?_ ?_
   | refine LeO.bind ?_ (fun _ => ?_)
theorem laws_FnHeaders.mono : ∀ a0 k, LeO (laws_FnHeaders.f k a0) (laws_FnHeaders.f (k + 1) a0) := by
 intro a0 k
 obtain ⟨ih0, ih1⟩ := laws_FnHeaders.mono_l k
 unfold laws_FnHeaders.f
 repeat' first
   | (with_reducible exact ih0 _ _)
   | (with_reducible exact ih1 _ _ _ _)
   | (with_reducible exact impl_Headers.mono _ _ _)
   | (with_reducible exact impl_PacketOk.mono _ _ _ _ _ _ _)
   | (with_reducible exact spec_DrawStores.mono _ _)
   | (with_reducible exact spec_Newer.mono _ _ _)
   | (with_reducible exact spec_Scope.mono _ _ _)
   | (with_reducible exact LeO.refl _)
   | (with_reducible exact LeO.none _)
   | (with_reducible refine LeO.ite ?_ ?_)
   | (with_reducible refine LeO.bind ?_ (fun _ => ?_))
   | exact ih0 _ _
   | exact ih1 _ _ _ _
   | exact impl_Headers.mono _ _ _
   | exact impl_PacketOk.mono _ _ _ _ _ _ _
   | exact spec_DrawStores.mono _ _
   | exact spec_Newer.mono _ _ _
   | exact spec_Scope.mono _ _ _
   | exact LeO.none _
   | refine LeO.ite ?_ ?_
   | refine LeO.bind ?_ (fun _ => ?_)
set_option maxHeartbeats 8000000 in
set_option maxRecDepth 100000 in
theorem laws_FnHeaders.calls (k : Nat) (A0 : Option Addr) (c0 : Nat) (l0 : List Int) (r : Bool) (w : World) (hr0 : Kd.C (Kd.int .u8) w A0 l0.length l0) (hc0 : l0.length ≤ c0) (hr_ : r = true) (h : laws_FnHeaders.f k l0 = some r) :
  Calls Try.prog 12 #[.slice A0 l0.length c0] w fun e w' => e = .returned (.bool r) ∧ Below w.heap.size w w' := by
 have hu83 := Try.underlying83
 have HR0 := Aside0.mk hr0
 have HC0 := Aside0.mk hc0
 clear hr0 hc0
 have HB := Aside0.mk (Below.refl w.heap.size w)
 have H : ((laws_big.f l0).bind fun t1558 => (if t1558 = true then (some true) else ((spec_DrawStores.f k l0).bind fun bt1559 => (laws_FnHeaders.l0 k bt1559.1 0)))) = some r := h
 clear h
 replace H := Option.bind_eq_some_iff.mp H
 obtain ⟨t1558, A20, H⟩ := H
 replace H : (if t1558 = true then (some true) else ((spec_DrawStores.f k l0).bind fun bt1559 => (laws_FnHeaders.l0 k bt1559.1 0))) = some r := H
 have A2 := Aside0.mk A20
 clear A20
 have HC3 := Aside0.mk H
 clear H
 go_enter Try.func12, Try.ntmps12
 go_upto_if 9 with (first | ((with_reducible refine gate_callee (f := 47) rfl ?_); refine goesL_ (some 9) rfl rfl Try.func47 (by kernel_rfl) rfl #[.slice A0 l0.length c0] rfl mp_q ?_; (with_reducible refine (laws_big.calls _ _ l0 t1558 _ ?side1 ?side2 A2.out).mono ?_); (case side1 => repeat (first | exact HR0.out | (with_reducible refine Kd.C_alloc ?_ _) | (with_reducible refine Kd.C_drewN ?_ _) | (with_reducible refine Kd.C_drew ?_))); (case side2 => exact HC0.out); rintro e w' ⟨rfl, ⟨nd, rfl⟩⟩; refine ⟨_, rfl, ?_⟩))
 have H := HC3.out
 clear HC3
 by_cases c4 : t1558 = true
 ·subst c4
  have H1 : (some true) = some r := by rw [if_pos rfl] at H; exact H
  clear H
  have H := H1
  clear H1
  obtain rfl := Option.some.inj H
  go_wp2
  go_ret
  exact ⟨er_q, bw_q HB⟩
 ·replace c4 := Bool.eq_false_iff.mpr c4
  subst c4
  have H1 : ((spec_DrawStores.f k l0).bind fun bt1559 => (laws_FnHeaders.l0 k bt1559.1 0)) = some r := by rw [if_neg (show ¬ (false = true) by decide)] at H; exact H
  clear H
  have H := H1
  clear H1
  replace H := Option.bind_eq_some_iff.mp H
  obtain ⟨⟨t1559, t1562⟩, A50, H⟩ := H
  replace H : (laws_FnHeaders.l0 k t1559 0) = some r := H
  have A5 := Aside0.mk A50
  clear A50
  have H' := Aside0.mk H
  clear H
  go_wp2_with (first | ((with_reducible refine gate_callee (f := 54) rfl ?_); refine goesL_ (some 12) rfl rfl Try.func54 (by kernel_rfl) rfl #[.slice A0 l0.length c0] rfl mp_q ?_; (with_reducible refine (spec_DrawStores.calls k _ _ l0 t1559 t1562 _ ?side1 ?side2 A5.out).mono ?_); (case side1 => exact cs_q (Kd.C_below HR0.out HB.out)); (case side2 => exact HC0.out); rintro e w6 ⟨v1560, v1563, rfl, ho0, ho1, hb⟩; refine ⟨_, rfl, ?_⟩; have HO1561 := Aside0.mk (Kd.V_lower (Kd.V_mono (ok' := fun k_ => True) ho0 (fun k_ hk_ => trivial)) (below_size (bw_q HB))); have HO1564 := Aside0.mk (Kd.V_lower (Kd.V_mono (ok' := fun k_ => True) ho1 (fun k_ hk_ => trivial)) (below_size (bw_q HB))); replace HB := Aside0.mk (below_step (bw_q HB) hb); (try clear hb); (try clear hb2); (try clear hk); (try clear hi); (try clear ho0); (try clear ho1)))
  go_loopg [5] k (fun kq v5 w' => ∃ (x5_1 : Int), v5 = .int .i64 x5_1 ∧ Aside0 (laws_FnHeaders.l0 kq t1559 x5_1 = some r) ∧ Aside0 (kq ≤ k) ∧ Aside0 (Kd.V k61 61 w' w.heap.size (fun _ => True) v1560 t1559) ∧ Aside0 (Below w.heap.size w w'))
  case atStart => exact ⟨(0), (by first | rfl | (simp; done) | (simp [*]; done)), H', ⟨Nat.le_refl _⟩, ⟨by (with_reducible repeat (first | apply Kd.V_alloc | apply Kd.V_drewN | apply Kd.V_drew)); exact HO1561.out⟩, ⟨bw_q HB⟩⟩
  case round =>
   clear H'
   try clear c1
   try clear p2
   try clear c4
   try clear c5
   obtain ⟨x5_1, rfl, HA, HK1, HO_3, HB⟩ := hrel
   cases gk with
   | zero => exact absurd HA.out (by simp [laws_FnHeaders.l0])
   | succ k1 =>
    have H := HA.out
    clear HA
    simp only [laws_FnHeaders.l0] at H
    by_cases c7 : x5_1 ≤ 2
    ·rw [if_pos c7] at H
     have c7b0 : decide (x5_1 ≤ 2) = true := decide_eq_true c7
     clear c7
     (first | rw [c7b0] | rw [c7b1] | (simp only [i64_w, i32_w]; first | rw [c7b0] | rw [c7b1]) | skip)
     replace H := Option.bind_eq_some_iff.mp H
     obtain ⟨t1566, A80, H⟩ := H
     replace H : ((spec_Scope.f k1 t1559 x5_1).bind fun t1569 => ((spec_Newer.f k1 t1566 t1569).bind fun t1572 => (if (t1572.length : Int) = 0 then ((spec_Newer.f k1 t1569 t1566).bind fun t1575 => (if (t1575.length : Int) = 0 then (laws_FnHeaders.j1 k1 t1559 x5_1 t1566 ((t1566.length : Int) != (t1569.length : Int))) else (laws_FnHeaders.j1 k1 t1559 x5_1 t1566 true))) else (laws_FnHeaders.j1 k1 t1559 x5_1 t1566 true)))) = some r := H
     have A8 := Aside0.mk A80
     clear A80
     replace H := Option.bind_eq_some_iff.mp H
     obtain ⟨t1569, A90, H⟩ := H
     replace H : ((spec_Newer.f k1 t1566 t1569).bind fun t1572 => (if (t1572.length : Int) = 0 then ((spec_Newer.f k1 t1569 t1566).bind fun t1575 => (if (t1575.length : Int) = 0 then (laws_FnHeaders.j1 k1 t1559 x5_1 t1566 ((t1566.length : Int) != (t1569.length : Int))) else (laws_FnHeaders.j1 k1 t1559 x5_1 t1566 true))) else (laws_FnHeaders.j1 k1 t1559 x5_1 t1566 true))) = some r := H
     have A9 := Aside0.mk A90
     clear A90
     have HC10 := Aside0.mk H
     clear H
     obtain ⟨Ao11, co11, eo11⟩ := Kd.V_slice HO_3.out
     subst eo11
     go_upto_region 9 with (first | ((with_reducible refine gate_callee (f := 46) rfl ?_); refine goesL_ (some 21) rfl rfl Try.func46 (by kernel_rfl) rfl #[.slice Ao11 t1559.length co11, .int .i64 x5_1] rfl mp_q ?_; (with_reducible refine (impl_Headers.calls k1 _ _ t1559 x5_1 t1566 _ ?side1 ?side2 A8.out).mono ?_); (case side1 => repeat (first | exact (Kd.V_reads' HO_3.out).2.2 | (with_reducible refine Kd.C_alloc ?_ _) | (with_reducible refine Kd.C_drewN ?_ _) | (with_reducible refine Kd.C_drew ?_))); (case side2 => exact (Kd.V_reads' HO_3.out).2.1); rintro e w12 ⟨v1567, rfl, ho0, hb⟩; refine ⟨_, rfl, ?_⟩; replace HO_3 := Aside0.mk (Kd.V_elder' (kV_q HO_3) (Kd.S_base ho0) hb); have HO1568 := Aside0.mk (Kd.S_lower ho0 (below_size (bw_q HB))); replace HB := Aside0.mk (below_step (bw_q HB) hb); (try clear hb); (try clear hb2); (try clear hk); (try clear hi); (try clear ho0)) | ((with_reducible refine gate_callee (f := 57) rfl ?_); refine goesL_ (some 24) rfl rfl Try.func57 (by kernel_rfl) rfl #[.slice Ao11 t1559.length co11, .int .i64 x5_1] rfl mp_q ?_; (with_reducible refine (spec_Scope.calls k1 _ _ t1559 x5_1 t1569 _ ?side1 ?side2 A9.out).mono ?_); (case side1 => repeat (first | exact (Kd.V_reads' HO_3.out).2.2 | (with_reducible refine Kd.C_alloc ?_ _) | (with_reducible refine Kd.C_drewN ?_ _) | (with_reducible refine Kd.C_drew ?_))); (case side2 => exact (Kd.V_reads' HO_3.out).2.1); rintro e w13 ⟨v1570, rfl, ho0, hb⟩; refine ⟨_, rfl, ?_⟩; replace HO_3 := Aside0.mk (Kd.V_elder' (kV_q HO_3) (Kd.S_base ho0) hb); have HO1571 := Aside0.mk (Kd.S_lower (Kd.S_new' ho0 (Kd.S_lt (kS_q HO1568))) (below_size (bw_q HB))); replace HO1568 := Aside0.mk (Kd.S_elder' (kS_q HO1568) (Kd.S_base ho0) hb); replace HB := Aside0.mk (below_step (bw_q HB) hb); (try clear hb); (try clear hb2); (try clear hk); (try clear hi); (try clear ho0)))
     (try simp only [Act.put, List.setIfInBounds_toArray, List.set_cons_zero, List.set_cons_succ])
     go_cut [43] (fun v43 wc => ∃ (kq : Nat) (x43_9 : Bool), v43 = .bool x43_9 ∧ Aside0 (laws_FnHeaders.j1 kq t1559 x5_1 t1566 x43_9 = some r) ∧ Aside0 (kq ≤ k1) ∧ Aside0 (Kd.V k61 61 wc w.heap.size (fun k_ => some k_ ≠ (v1567 : Value).ownBlock) (.slice Ao11 t1559.length co11) t1559) ∧ Aside0 (Kd.S k61 61 wc w.heap.size (fun _ => True) v1567 t1566) ∧ Aside0 (Below w.heap.size w wc))
     case first =>
      have H := HC10.out
      clear HC10
      replace H := Option.bind_eq_some_iff.mp H
      obtain ⟨t1572, A140, H⟩ := H
      replace H : (if (t1572.length : Int) = 0 then ((spec_Newer.f k1 t1569 t1566).bind fun t1575 => (if (t1575.length : Int) = 0 then (laws_FnHeaders.j1 k1 t1559 x5_1 t1566 ((t1566.length : Int) != (t1569.length : Int))) else (laws_FnHeaders.j1 k1 t1559 x5_1 t1566 true))) else (laws_FnHeaders.j1 k1 t1559 x5_1 t1566 true)) = some r := H
      have A14 := Aside0.mk A140
      clear A140
      by_cases c15 : (t1572.length : Int) = 0
      ·rw [if_pos c15] at H
       have c15b0 : ((t1572.length : Int) == 0) = true := beq_iff_eq.mpr c15
       have c15b1 : ((t1572.length : Int) != 0) = false := bne_eq_false_iff_eq.mpr c15
       clear c15
       (first | rw [c15b0] | rw [c15b1] | (simp only [i64_w, i32_w]; first | rw [c15b0] | rw [c15b1]) | skip)
       replace H := Option.bind_eq_some_iff.mp H
       obtain ⟨t1575, A160, H⟩ := H
       replace H : (if (t1575.length : Int) = 0 then (laws_FnHeaders.j1 k1 t1559 x5_1 t1566 ((t1566.length : Int) != (t1569.length : Int))) else (laws_FnHeaders.j1 k1 t1559 x5_1 t1566 true)) = some r := H
       have A16 := Aside0.mk A160
       clear A160
       by_cases c17 : (t1575.length : Int) = 0
       ·rw [if_pos c17] at H
        have c17b0 : ((t1575.length : Int) == 0) = true := beq_iff_eq.mpr c17
        have c17b1 : ((t1575.length : Int) != 0) = false := bne_eq_false_iff_eq.mpr c17
        clear c17
        have H' := Aside0.mk H
        clear H
        obtain ⟨Ao18, co18, eo18⟩ := Kd.S_slice HO1568.out
        subst eo18
        obtain ⟨Ao19, co19, eo19⟩ := Kd.S_slice HO1571.out
        subst eo19
        go_wp2_with (first | ((with_reducible refine gate_callee (f := 58) rfl ?_); refine goesL_ (some 27) rfl rfl Try.func58 (by kernel_rfl) rfl #[.slice Ao18 t1566.length co18, .slice Ao19 t1569.length co19] rfl mp_q ?_; (with_reducible refine (spec_Newer.calls k1 _ _ t1566 _ _ t1569 t1572 _ ?side1 ?side2 ?side3 ?side4 A14.out).mono ?_); (case side1 => repeat (first | exact (Kd.S_reads' HO1568.out).2.2 | (with_reducible refine Kd.C_alloc ?_ _) | (with_reducible refine Kd.C_drewN ?_ _) | (with_reducible refine Kd.C_drew ?_))); (case side2 => exact (Kd.S_reads' HO1568.out).2.1); (case side3 => repeat (first | exact (Kd.S_reads' HO1571.out).2.2 | (with_reducible refine Kd.C_alloc ?_ _) | (with_reducible refine Kd.C_drewN ?_ _) | (with_reducible refine Kd.C_drew ?_))); (case side4 => exact (Kd.S_reads' HO1571.out).2.1); rintro e w20 ⟨v1573, rfl, ho0, hb⟩; refine ⟨_, rfl, ?_⟩; replace HO_3 := Aside0.mk (Kd.V_elder' (kV_q HO_3) (Kd.S_base ho0) hb); have HO1574 := Aside0.mk (Kd.S_lower (Kd.S_new' (Kd.S_new' ho0 (Kd.S_lt (kS_q HO1568))) (Kd.S_lt (kS_q HO1571))) (below_size (bw_q HB))); replace HO1568 := Aside0.mk (Kd.S_elder' (kS_q HO1568) (Kd.S_base ho0) hb); replace HO1571 := Aside0.mk (Kd.S_elder' (kS_q HO1571) (Kd.S_base ho0) hb); replace HB := Aside0.mk (below_step (bw_q HB) hb); (try clear hb); (try clear hb2); (try clear hk); (try clear hi); (try clear ho0); obtain ⟨Ao21, co21, eo21⟩ := Kd.S_slice HO1574.out; subst eo21) | (go_at_call 58; (with_reducible refine (spec_Newer.calls k1 _ _ t1569 _ _ t1566 t1575 _ ?side1 ?side2 ?side3 ?side4 A16.out).mono ?_); (case side1 => repeat (first | exact (Kd.S_reads' HO1571.out).2.2 | (with_reducible refine Kd.C_alloc ?_ _) | (with_reducible refine Kd.C_drewN ?_ _) | (with_reducible refine Kd.C_drew ?_))); (case side2 => exact (Kd.S_reads' HO1571.out).2.1); (case side3 => repeat (first | exact (Kd.S_reads' HO1568.out).2.2 | (with_reducible refine Kd.C_alloc ?_ _) | (with_reducible refine Kd.C_drewN ?_ _) | (with_reducible refine Kd.C_drew ?_))); (case side4 => exact (Kd.S_reads' HO1568.out).2.1); rintro e w22 ⟨v1576, rfl, ho0, hb⟩; replace HO_3 := Aside0.mk (Kd.V_elder' (kV_q HO_3) (Kd.S_base ho0) hb); have HO1577 := Aside0.mk (Kd.S_lower (Kd.S_new' (Kd.S_new' (Kd.S_new' ho0 (Kd.S_lt (kS_q HO1568))) (Kd.S_lt (kS_q HO1571))) (Kd.S_lt (kS_q HO1574))) (below_size (bw_q HB))); replace HO1568 := Aside0.mk (Kd.S_elder' (kS_q HO1568) (Kd.S_base ho0) hb); replace HO1571 := Aside0.mk (Kd.S_elder' (kS_q HO1571) (Kd.S_base ho0) hb); replace HO1574 := Aside0.mk (Kd.S_elder' (kS_q HO1574) (Kd.S_base ho0) hb); replace HB := Aside0.mk (below_step (bw_q HB) hb); (try clear hb); (try clear hb2); (try clear hk); (try clear hi); (try clear ho0); obtain ⟨Ao23, co23, eo23⟩ := Kd.S_slice HO1577.out; subst eo23))
        go_meet
        case rel => exact ⟨_, (((t1566.length : Int) != (t1569.length : Int))), (by first | rfl | (simp; done) | (simp [*]; done)), H', ⟨by have := HK1.out; first | omega | exact Nat.le_refl _⟩, ⟨by (with_reducible repeat (first | apply Kd.V_alloc | apply Kd.V_drewN | apply Kd.V_drew)); exact Kd.V_mono HO_3.out (fun _ hk => hk.1.1.1.2)⟩, ⟨by (with_reducible repeat (first | apply Kd.S_alloc | apply Kd.S_drewN | apply Kd.S_drew)); exact Kd.S_mono HO1568.out (fun _ hk => trivial)⟩, ⟨bw_q HB⟩⟩
       ·rw [if_neg c17] at H
        have c17b0 : ((t1575.length : Int) == 0) = false := beq_eq_false_iff_ne.mpr c17
        have c17b1 : ((t1575.length : Int) != 0) = true := bne_iff_ne.mpr c17
        have c17b2 : ¬ (t1575 = []) := fun h_ => c17 (by rw [h_]; rfl)
        have H' := Aside0.mk H
        clear H
        obtain ⟨Ao24, co24, eo24⟩ := Kd.S_slice HO1568.out
        subst eo24
        obtain ⟨Ao25, co25, eo25⟩ := Kd.S_slice HO1571.out
        subst eo25
        go_wp2_with (first | ((with_reducible refine gate_callee (f := 58) rfl ?_); refine goesL_ (some 27) rfl rfl Try.func58 (by kernel_rfl) rfl #[.slice Ao24 t1566.length co24, .slice Ao25 t1569.length co25] rfl mp_q ?_; (with_reducible refine (spec_Newer.calls k1 _ _ t1566 _ _ t1569 t1572 _ ?side1 ?side2 ?side3 ?side4 A14.out).mono ?_); (case side1 => repeat (first | exact (Kd.S_reads' HO1568.out).2.2 | (with_reducible refine Kd.C_alloc ?_ _) | (with_reducible refine Kd.C_drewN ?_ _) | (with_reducible refine Kd.C_drew ?_))); (case side2 => exact (Kd.S_reads' HO1568.out).2.1); (case side3 => repeat (first | exact (Kd.S_reads' HO1571.out).2.2 | (with_reducible refine Kd.C_alloc ?_ _) | (with_reducible refine Kd.C_drewN ?_ _) | (with_reducible refine Kd.C_drew ?_))); (case side4 => exact (Kd.S_reads' HO1571.out).2.1); rintro e w26 ⟨v1573, rfl, ho0, hb⟩; refine ⟨_, rfl, ?_⟩; replace HO_3 := Aside0.mk (Kd.V_elder' (kV_q HO_3) (Kd.S_base ho0) hb); have HO1574 := Aside0.mk (Kd.S_lower (Kd.S_new' (Kd.S_new' ho0 (Kd.S_lt (kS_q HO1568))) (Kd.S_lt (kS_q HO1571))) (below_size (bw_q HB))); replace HO1568 := Aside0.mk (Kd.S_elder' (kS_q HO1568) (Kd.S_base ho0) hb); replace HO1571 := Aside0.mk (Kd.S_elder' (kS_q HO1571) (Kd.S_base ho0) hb); replace HB := Aside0.mk (below_step (bw_q HB) hb); (try clear hb); (try clear hb2); (try clear hk); (try clear hi); (try clear ho0); obtain ⟨Ao27, co27, eo27⟩ := Kd.S_slice HO1574.out; subst eo27) | (go_at_call 58; (with_reducible refine (spec_Newer.calls k1 _ _ t1569 _ _ t1566 t1575 _ ?side1 ?side2 ?side3 ?side4 A16.out).mono ?_); (case side1 => repeat (first | exact (Kd.S_reads' HO1571.out).2.2 | (with_reducible refine Kd.C_alloc ?_ _) | (with_reducible refine Kd.C_drewN ?_ _) | (with_reducible refine Kd.C_drew ?_))); (case side2 => exact (Kd.S_reads' HO1571.out).2.1); (case side3 => repeat (first | exact (Kd.S_reads' HO1568.out).2.2 | (with_reducible refine Kd.C_alloc ?_ _) | (with_reducible refine Kd.C_drewN ?_ _) | (with_reducible refine Kd.C_drew ?_))); (case side4 => exact (Kd.S_reads' HO1568.out).2.1); rintro e w28 ⟨v1576, rfl, ho0, hb⟩; replace HO_3 := Aside0.mk (Kd.V_elder' (kV_q HO_3) (Kd.S_base ho0) hb); have HO1577 := Aside0.mk (Kd.S_lower (Kd.S_new' (Kd.S_new' (Kd.S_new' ho0 (Kd.S_lt (kS_q HO1568))) (Kd.S_lt (kS_q HO1571))) (Kd.S_lt (kS_q HO1574))) (below_size (bw_q HB))); replace HO1568 := Aside0.mk (Kd.S_elder' (kS_q HO1568) (Kd.S_base ho0) hb); replace HO1571 := Aside0.mk (Kd.S_elder' (kS_q HO1571) (Kd.S_base ho0) hb); replace HO1574 := Aside0.mk (Kd.S_elder' (kS_q HO1574) (Kd.S_base ho0) hb); replace HB := Aside0.mk (below_step (bw_q HB) hb); (try clear hb); (try clear hb2); (try clear hk); (try clear hi); (try clear ho0); obtain ⟨Ao29, co29, eo29⟩ := Kd.S_slice HO1577.out; subst eo29))
        go_meet
        case rel => exact ⟨_, (true), (by first | rfl | (simp; done) | (simp [*]; done)), H', ⟨by have := HK1.out; first | omega | exact Nat.le_refl _⟩, ⟨by (with_reducible repeat (first | apply Kd.V_alloc | apply Kd.V_drewN | apply Kd.V_drew)); exact Kd.V_mono HO_3.out (fun _ hk => hk.1.1.1.2)⟩, ⟨by (with_reducible repeat (first | apply Kd.S_alloc | apply Kd.S_drewN | apply Kd.S_drew)); exact Kd.S_mono HO1568.out (fun _ hk => trivial)⟩, ⟨bw_q HB⟩⟩
      ·rw [if_neg c15] at H
       have c15b0 : ((t1572.length : Int) == 0) = false := beq_eq_false_iff_ne.mpr c15
       have c15b1 : ((t1572.length : Int) != 0) = true := bne_iff_ne.mpr c15
       have c15b2 : ¬ (t1572 = []) := fun h_ => c15 (by rw [h_]; rfl)
       (first | rw [c15b0] | rw [c15b1] | (simp only [i64_w, i32_w]; first | rw [c15b0] | rw [c15b1]) | skip)
       have H' := Aside0.mk H
       clear H
       obtain ⟨Ao30, co30, eo30⟩ := Kd.S_slice HO1568.out
       subst eo30
       obtain ⟨Ao31, co31, eo31⟩ := Kd.S_slice HO1571.out
       subst eo31
       go_wp2_with (first | ((with_reducible refine gate_callee (f := 58) rfl ?_); refine goesL_ (some 27) rfl rfl Try.func58 (by kernel_rfl) rfl #[.slice Ao30 t1566.length co30, .slice Ao31 t1569.length co31] rfl mp_q ?_; (with_reducible refine (spec_Newer.calls k1 _ _ t1566 _ _ t1569 t1572 _ ?side1 ?side2 ?side3 ?side4 A14.out).mono ?_); (case side1 => repeat (first | exact (Kd.S_reads' HO1568.out).2.2 | (with_reducible refine Kd.C_alloc ?_ _) | (with_reducible refine Kd.C_drewN ?_ _) | (with_reducible refine Kd.C_drew ?_))); (case side2 => exact (Kd.S_reads' HO1568.out).2.1); (case side3 => repeat (first | exact (Kd.S_reads' HO1571.out).2.2 | (with_reducible refine Kd.C_alloc ?_ _) | (with_reducible refine Kd.C_drewN ?_ _) | (with_reducible refine Kd.C_drew ?_))); (case side4 => exact (Kd.S_reads' HO1571.out).2.1); rintro e w32 ⟨v1573, rfl, ho0, hb⟩; refine ⟨_, rfl, ?_⟩; replace HO_3 := Aside0.mk (Kd.V_elder' (kV_q HO_3) (Kd.S_base ho0) hb); have HO1574 := Aside0.mk (Kd.S_lower (Kd.S_new' (Kd.S_new' ho0 (Kd.S_lt (kS_q HO1568))) (Kd.S_lt (kS_q HO1571))) (below_size (bw_q HB))); replace HO1568 := Aside0.mk (Kd.S_elder' (kS_q HO1568) (Kd.S_base ho0) hb); replace HO1571 := Aside0.mk (Kd.S_elder' (kS_q HO1571) (Kd.S_base ho0) hb); replace HB := Aside0.mk (below_step (bw_q HB) hb); (try clear hb); (try clear hb2); (try clear hk); (try clear hi); (try clear ho0); obtain ⟨Ao33, co33, eo33⟩ := Kd.S_slice HO1574.out; subst eo33))
       go_meet
       case rel => exact ⟨_, (true), (by first | rfl | (simp; done) | (simp [*]; done)), H', ⟨by have := HK1.out; first | omega | exact Nat.le_refl _⟩, ⟨by (with_reducible repeat (first | apply Kd.V_alloc | apply Kd.V_drewN | apply Kd.V_drew)); exact Kd.V_mono HO_3.out (fun _ hk => hk.1.1.2)⟩, ⟨by (with_reducible repeat (first | apply Kd.S_alloc | apply Kd.S_drewN | apply Kd.S_drew)); exact Kd.S_mono HO1568.out (fun _ hk => trivial)⟩, ⟨bw_q HB⟩⟩
     case rest =>
      clear HC10
      try clear c1
      try clear p2
      try clear c4
      try clear c5
      try clear c7
      try clear c7b0
      try clear c7b1
      try clear c12
      try clear c15
      try clear c15b0
      try clear c15b1
      try clear c15b2
      try clear c17
      try clear c17b0
      try clear c17b1
      try clear c17b2
      try clear p2
      obtain ⟨kq, x43_9, rfl, HA, HJ9, HO_3, HO_6, HB⟩ := hcut
      cases kq with
      | zero => exact absurd HA.out (by simp [laws_FnHeaders.j1])
      | succ kj9 =>
       have H := HA.out
       clear HA
       simp only [laws_FnHeaders.j1] at H
       by_cases c34 : x43_9 = true
       ·subst c34
        have H1 : (some false) = some r := by rw [if_pos rfl] at H; exact H
        clear H
        have H := H1
        clear H1
        exact absurd (Option.some.inj H) (by rw [hr_]; decide)
       ·replace c34 := Bool.eq_false_iff.mpr c34
        subst c34
        have H1 : ((impl_PacketOk.f kj9 2 1 2 x5_1 ([] : List Int) t1566).bind fun t1578 => (if t1578 = true then (laws_FnHeaders.l0 kj9 t1559 (wrap64 (x5_1 + 1))) else (some false))) = some r := by rw [if_neg (show ¬ (false = true) by decide)] at H; exact H
        clear H
        have H := H1
        clear H1
        replace H := Option.bind_eq_some_iff.mp H
        obtain ⟨t1578, A350, H⟩ := H
        replace H : (if t1578 = true then (laws_FnHeaders.l0 kj9 t1559 (wrap64 (x5_1 + 1))) else (some false)) = some r := H
        have A35 := Aside0.mk A350
        clear A350
        have HC36 := Aside0.mk H
        clear H
        obtain ⟨Ao37, co37, eo37⟩ := Kd.S_slice HO_6.out
        subst eo37
        go_upto_if 48 with (first | ((with_reducible refine gate_callee (f := 59) rfl ?_); refine goesL_ (some 47) rfl rfl Try.func59 (by kernel_rfl) rfl #[.agg #[.int .i64 2, .int .i64 1, .int .i64 2, .int .i64 x5_1, .slice none 0 0, .slice Ao37 t1566.length co37]] rfl mp_q ?_; (refine (impl_PacketOk.calls kj9 2 1 2 x5_1 _ _ ([] : List Int) _ _ t1566 t1578 _ ?side1 ?side2 ?side3 ?side4 A35.out).mono ?_); (case side1 => exact Kd.C_nil _ _); (case side2 => exact Nat.le_refl _); (case side3 => repeat (first | exact (Kd.S_reads' HO_6.out).2.2 | (with_reducible refine Kd.C_alloc ?_ _) | (with_reducible refine Kd.C_drewN ?_ _) | (with_reducible refine Kd.C_drew ?_))); (case side4 => exact (Kd.S_reads' HO_6.out).2.1); rintro e w38 ⟨rfl, hb⟩; refine ⟨_, rfl, ?_⟩; replace HO_3 := Aside0.mk (Kd.V_below (kV_q HO_3) hb); replace HO_6 := Aside0.mk (Kd.S_below (kS_q HO_6) hb); replace HB := Aside0.mk (below_step (bw_q HB) hb); (try clear hb); (try clear hb2); (try clear hk); (try clear hi)))
        have H := HC36.out
        clear HC36
        by_cases c39 : t1578 = true
        ·subst c39
         have H1 : (laws_FnHeaders.l0 kj9 t1559 (wrap64 (x5_1 + 1))) = some r := by rw [if_pos rfl] at H; exact H
         clear H
         have H := H1
         clear H1
         have H' := Aside0.mk H
         clear H
         go_wp2
         go_roundg kj9
         case measure => have := HK1.out; have := HJ9.out; omega
         case rel => exact ⟨(wrap64 (x5_1 + 1)), (by first | rfl | (simp; done) | (simp [*]; done)), H', ⟨by have := HK1.out; have := HJ9.out; omega⟩, ⟨by (with_reducible repeat (first | apply Kd.V_alloc | apply Kd.V_drewN | apply Kd.V_drew)); exact Kd.V_mono HO_3.out (fun _ hk => trivial)⟩, ⟨bw_q HB⟩⟩
        ·replace c39 := Bool.eq_false_iff.mpr c39
         subst c39
         have H1 : (some false) = some r := by rw [if_neg (show ¬ (false = true) by decide)] at H; exact H
         clear H
         have H := H1
         clear H1
         exact absurd (Option.some.inj H) (by rw [hr_]; decide)
    ·rw [if_neg c7] at H
     have c7b0 : decide (x5_1 ≤ 2) = false := decide_eq_false c7
     clear c7
     (first | rw [c7b0] | rw [c7b1] | (simp only [i64_w, i32_w]; first | rw [c7b0] | rw [c7b1]) | skip)
     replace H := Option.bind_eq_some_iff.mp H
     obtain ⟨t1565, A400, H⟩ := H
     replace H : (some (!t1565)) = some r := H
     have A40 := Aside0.mk A400
     clear A400
     obtain rfl := Option.some.inj H
     go_wp2_with (first | ((with_reducible refine gate_callee (f := 59) rfl ?_); refine goesL_ (some 50) rfl rfl Try.func59 (by kernel_rfl) rfl #[.agg #[.int .i64 2, .int .i64 1, .int .i64 1, .int .i64 0, .slice none 0 0, .slice none 0 0]] rfl mp_q ?_; (refine (impl_PacketOk.calls k1 2 1 1 0 _ _ ([] : List Int) _ _ ([] : List (S61)) t1565 _ ?side1 ?side2 ?side3 ?side4 A40.out).mono ?_); (case side1 => exact Kd.C_nil _ _); (case side2 => exact Nat.le_refl _); (case side3 => exact Kd.C_nil _ _); (case side4 => exact Nat.le_refl _); rintro e w41 ⟨rfl, hb⟩; refine ⟨_, rfl, ?_⟩; replace HO_3 := Aside0.mk (Kd.V_below (kV_q HO_3) hb); replace HB := Aside0.mk (below_step (bw_q HB) hb); (try clear hb); (try clear hb2); (try clear hk); (try clear hi)))
     go_ret
     exact ⟨er_q, bw_q HB⟩

/-- THE ONE PURE STATEMENT of laws_FnHeaders: yours. -/
def laws_FnHeaders.Pure : Prop := ∀ (l0 : List Int), l0.length ≤ maxLen → l0.length * 1 ≤ 140737488351232 → (∀ x ∈ l0, (Lit.int .u8 x).wf = true) → ∃ k, laws_FnHeaders.f k l0 = some true
theorem laws_FnHeaders.walk (P : laws_FnHeaders.Pure) (a0 : Option Addr) (len0 cap0 : Nat) (z0 : List Int) (w : World) (w0 : (a0 = none ∧ len0 = 0 ∧ cap0 = 0 ∧ z0 = []) ∨ ∃ x, a0 = some x ∧ len0 ≤ cap0 ∧ cap0 ≤ maxLen ∧ z0.length = cap0 ∧ (∀ i, i < z0.length → w.cell? (x.add i) = some (.int .u8 (z0.getD i 0))) ∧ ∀ n ∈ z0, (Lit.int .u8 n).wf = true) (y0 : len0 * 1 ≤ 140737488351232) :
  Calls Try.prog 12 #[.slice a0 len0 cap0] w fun e w' => e = .returned (.bool true) ∧ Below w.heap.size w w' := by
 obtain ⟨l0, rfl, hr0, hm0, hw0, hc0⟩ := ReadsInt.ofRowC w0
 obtain ⟨k, h⟩ := P l0 hm0 y0 hw0
 refine (laws_FnHeaders.calls k _ _ l0 true w (Kd.C_of_reads (d := (0 : Int)) (h1 := fun _ => rfl) hr0) hc0 rfl h).mono ?_
 rintro e w' ⟨rfl, hd⟩
 exact ⟨rfl, hd⟩

end Go.Proofs.Ythjmdiggglkeaaa.Q
