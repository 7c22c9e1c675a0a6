import Derived.Test.YthjmdiggglkeaaaXInstallQlawstoNearS
import Derived.Test.YthjmdiggglkeaaaXInstallQspecl04Near
/- A Go function as a Lean function, and its contract: for every input the Go code comes to what the Lean function tells. -/



namespace Go.Proofs.Ythjmdiggglkeaaa.Q
open Go.RowKit Go.Proofs.YthjmdiggglkeaaaW.PrintWords Go.Proofs.YthjmdiggglkeaaaW.PrintLast Go.Proofs.YthjmdiggglkeaaaW.PrintMore
attribute [local go_sem] max2_int min2_int max_two min_two max_three min_three max_four min_four   -- for this text's walks alone
set_option linter.unusedVariables false
set_option linter.unusedSimpArgs false

/-! ### spec_RecordOk: function 131 -/
def spec_RecordOk.j0 : Nat → Bool → Int → Int → Int → Int → Int → List (S127) → Int → Bool → Option (Bool)
 | 0, _, _, _, _, _, _, _, _, _ => none
 | k + 1, x12, x252000, x252001, x252002, x252003, x252004, x252005, x252006, x252007 => if x12 = true then (some false) else (if x252001 = 1 then ((spec_l01In.f x252000 0 2).bind fun t254 => (if t254 = true then (if x252003 = 0 then ((spec_l04Near.f k x252000 x252001 x252002 x252003 x252004 x252005 x252006 x252007).bind fun t255 => (if t255 = true then (if x252006 = 0 then (some (!x252007)) else (some false)) else (some false))) else (some false)) else (some false))) else (if x252001 = 2 then ((spec_l01In.f x252000 0 2).bind fun t256 => (if t256 = true then ((spec_l01In.f x252003 1 6).bind fun t257 => (if t257 = true then (if (x252005.length : Int) = 0 then ((spec_l01In.f x252006 0 60000).bind fun t258 => (if t258 = true then (some (!x252007)) else (some false))) else (some false)) else (some false))) else (some false))) else (if x252001 = 3 then (if x252000 = 9 then ((spec_l01In.f x252003 1 9).bind fun t259 => (if t259 = true then (if (x252005.length : Int) = 0 then ((spec_l01In.f x252006 1 1000).bind fun t260 => (if t260 = true then (some true) else (some (x252006 == 60000)))) else (some false)) else (some false))) else (some false)) else (some false))))
def spec_RecordOk.f (k : Nat) (a0_0 : Int) (a0_1 : Int) (a0_2 : Int) (a0_3 : Int) (a0_4 : Int) (l0_5 : List (S127)) (a0_6 : Int) (a0_7 : Bool) : Option (Bool) := (spec_l01In.f a0_2 1 6).bind fun t252 => (if t252 = true then ((spec_l01In.f a0_4 1 100000).bind fun t253 => (spec_RecordOk.j0 k (!t253) a0_0 a0_1 a0_2 a0_3 a0_4 l0_5 a0_6 a0_7)) else (spec_RecordOk.j0 k true a0_0 a0_1 a0_2 a0_3 a0_4 l0_5 a0_6 a0_7))
theorem spec_RecordOk.mono_l : ∀ k, (∀ y0 y1 y2 y3 y4 y5 y6 y7 y8, LeO (spec_RecordOk.j0 k y0 y1 y2 y3 y4 y5 y6 y7 y8) (spec_RecordOk.j0 (k + 1) y0 y1 y2 y3 y4 y5 y6 y7 y8))
 | 0 => fun _ _ _ _ _ _ _ _ _ r h => by simp [spec_RecordOk.j0] at h
 | k + 1 => by
  have ih0 := spec_RecordOk.mono_l k
  ·intro y0 y1 y2 y3 y4 y5 y6 y7 y8
   unfold spec_RecordOk.j0
   repeat' first
   | (with_reducible exact ih0 _ _ _ _ _ _ _ _ _)
   | (with_reducible exact spec_l04Near.mono _ _ _ _ _ _ _ _ _)
   | (with_reducible exact LeO.refl _)
   | (with_reducible exact LeO.none _)
   | (with_reducible refine LeO.ite ?_ ?_)
   | (with_reducible refine LeO.bind ?_ (fun _ => ?_))
   | exact ih0 _ _ _ _ _ _ _ _ _
   | exact spec_l04Near.mono _ _ _ _ _ _ _ _ _
   | exact LeO.none _
   | refine LeO.ite ?_ ?_
   | refine LeO.bind ?_ (fun _ => ?_)
theorem spec_RecordOk.mono : ∀ a0 a1 a2 a3 a4 a5 a6 a7 k, LeO (spec_RecordOk.f k a0 a1 a2 a3 a4 a5 a6 a7) (spec_RecordOk.f (k + 1) a0 a1 a2 a3 a4 a5 a6 a7) := by
 intro a0 a1 a2 a3 a4 a5 a6 a7 k
 have ih0 := spec_RecordOk.mono_l k
 unfold spec_RecordOk.f
 repeat' first
   | (with_reducible exact ih0 _ _ _ _ _ _ _ _ _)
   | (with_reducible exact spec_l04Near.mono _ _ _ _ _ _ _ _ _)
   | (with_reducible exact LeO.refl _)
   | (with_reducible exact LeO.none _)
   | (with_reducible refine LeO.ite ?_ ?_)
   | (with_reducible refine LeO.bind ?_ (fun _ => ?_))
   | exact ih0 _ _ _ _ _ _ _ _ _
   | exact spec_l04Near.mono _ _ _ _ _ _ _ _ _
   | exact LeO.none _
   | refine LeO.ite ?_ ?_
   | refine LeO.bind ?_ (fun _ => ?_)
set_option maxHeartbeats 8000000 in
set_option maxRecDepth 100000 in
theorem spec_RecordOk.calls (k : Nat) (a0_0 : Int) (a0_1 : Int) (a0_2 : Int) (a0_3 : Int) (a0_4 : Int) (A0_5 : Option Addr) (c0_5 : Nat) (l0_5 : List (S127)) (a0_6 : Int) (a0_7 : Bool) (r : Bool) (w : World) (hr0_5 : Kd.C k127 w A0_5 l0_5.length l0_5) (hc0_5 : l0_5.length ≤ c0_5) (h : spec_RecordOk.f k a0_0 a0_1 a0_2 a0_3 a0_4 l0_5 a0_6 a0_7 = some r) :
  Calls Try.prog 131 #[.agg #[.int .i64 a0_0, .int .i64 a0_1, .int .i64 a0_2, .int .i64 a0_3, .int .i64 a0_4, .slice A0_5 l0_5.length c0_5, .int .i64 a0_6, .bool a0_7]] w fun e w' => e = .returned (.bool r) ∧ Below w.heap.size w w' := by
 have hu61 := Try.underlying61
 have HR0_5 := Aside0.mk hr0_5
 have HC0_5 := Aside0.mk hc0_5
 clear hr0_5 hc0_5
 have HB := Aside0.mk (Below.refl w.heap.size w)
 have H : ((spec_l01In.f a0_2 1 6).bind fun t252 => (if t252 = true then ((spec_l01In.f a0_4 1 100000).bind fun t253 => (spec_RecordOk.j0 k (!t253) a0_0 a0_1 a0_2 a0_3 a0_4 l0_5 a0_6 a0_7)) else (spec_RecordOk.j0 k true a0_0 a0_1 a0_2 a0_3 a0_4 l0_5 a0_6 a0_7))) = some r := h
 clear h
 have HC2 := Aside0.mk H
 clear H
 go_enter Try.func131, Try.ntmps131
 go_upto_region 1 with (first | ((with_reducible refine gate_dst (N := 1) rfl ?_); (try (refine gate_guard (by rfl) ?_; dsimp only)); refine box_q 1 #[.int .i64 a0_0, .int .i64 a0_1, .int .i64 a0_2, .int .i64 a0_3, .int .i64 a0_4, .slice A0_5 l0_5.length c0_5, .int .i64 a0_6, .bool a0_7] 61 ?_; intro gb251 hg w3 hbox hb; have BK251 := Aside0.mk (hbox); have GW251 := Aside0.mk ((by rw [hg]; exact (below_size (bw_q HB)) : w.heap.size ≤ gb251)); have GE251 := Aside0.mk ((by rw [hg]; exact (below_size (bw_q HB)) : w.heap.size ≤ gb251)); replace HB := Aside0.mk (below_step (bw_q HB) hb); clear hb hbox hg))
 (try simp only [Act.put, List.setIfInBounds_toArray, List.set_cons_zero, List.set_cons_succ])
 go_cut [12] (fun v12 wc => ∃ (kq : Nat) (x12_1 : Bool), v12 = .bool x12_1 ∧ Aside0 (spec_RecordOk.j0 kq x12_1 a0_0 a0_1 a0_2 a0_3 a0_4 l0_5 a0_6 a0_7 = some r) ∧ Aside0 (kq ≤ k) ∧ Aside0 (wc.heap[gb251]? = some (.cells #[.int .i64 a0_0, .int .i64 a0_1, .int .i64 a0_2, .int .i64 a0_3, .int .i64 a0_4, (.slice A0_5 l0_5.length c0_5), .int .i64 a0_6, .bool a0_7] 61 (0, 0))) ∧ Aside0 (Below w.heap.size w wc))
 case first =>
  have H := HC2.out
  clear HC2
  replace H := Option.bind_eq_some_iff.mp H
  obtain ⟨t252, A40, H⟩ := H
  replace H : (if t252 = true then ((spec_l01In.f a0_4 1 100000).bind fun t253 => (spec_RecordOk.j0 k (!t253) a0_0 a0_1 a0_2 a0_3 a0_4 l0_5 a0_6 a0_7)) else (spec_RecordOk.j0 k true a0_0 a0_1 a0_2 a0_3 a0_4 l0_5 a0_6 a0_7)) = some r := H
  have A4 := Aside0.mk A40
  clear A40
  by_cases c5 : t252 = true
  ·subst c5
   have H1 : ((spec_l01In.f a0_4 1 100000).bind fun t253 => (spec_RecordOk.j0 k (!t253) a0_0 a0_1 a0_2 a0_3 a0_4 l0_5 a0_6 a0_7)) = some r := by rw [if_pos rfl] at H; exact H
   clear H
   have H := H1
   clear H1
   replace H := Option.bind_eq_some_iff.mp H
   obtain ⟨t253, A60, H⟩ := H
   replace H : (spec_RecordOk.j0 k (!t253) a0_0 a0_1 a0_2 a0_3 a0_4 l0_5 a0_6 a0_7) = some r := H
   have A6 := Aside0.mk A60
   clear A60
   have H' := Aside0.mk H
   clear H
   obtain ⟨hcz7_0, hcz7_1, hcz7_2, hcz7_3, hcz7_4, hcz7_5, hcz7_6, hcz7_7⟩ := cz8_ BK251
   obtain ⟨hfz7_0, hfz7_1, hfz7_2, hfz7_3, hfz7_4, hfz7_5, hfz7_6, hfz7_7⟩ := fz8_ BK251
   go_wp2_with (first | ((with_reducible refine gate_callee (f := 75) rfl ?_); refine goesL_ (some 5) rfl rfl Try.func75 (by kernel_rfl) rfl #[.int .i64 a0_2, .int .i64 1, .int .i64 6] rfl mp_q ?_; (with_reducible refine (spec_l01In.calls a0_2 1 6 true _ A4.out).mono ?_); rintro e w' ⟨rfl, ⟨nd, rfl⟩⟩; refine ⟨_, rfl, ?_⟩) | (go_at_call 75; (with_reducible refine (spec_l01In.calls a0_4 1 100000 t253 _ A6.out).mono ?_); rintro e w' ⟨rfl, ⟨nd, rfl⟩⟩))
   go_meet
   case rel => exact ⟨_, (!t253), (by first | rfl | (simp; done) | (simp [*]; done)), H', ⟨by first | omega | exact Nat.le_refl _⟩, ⟨by refine bz_ ?_; exact BK251.out⟩, ⟨bw_q HB⟩⟩
  ·replace c5 := Bool.eq_false_iff.mpr c5
   subst c5
   have H1 : (spec_RecordOk.j0 k true a0_0 a0_1 a0_2 a0_3 a0_4 l0_5 a0_6 a0_7) = some r := by rw [if_neg (show ¬ (false = true) by decide)] at H; exact H
   clear H
   have H := H1
   clear H1
   have H' := Aside0.mk H
   clear H
   obtain ⟨hcz8_0, hcz8_1, hcz8_2, hcz8_3, hcz8_4, hcz8_5, hcz8_6, hcz8_7⟩ := cz8_ BK251
   obtain ⟨hfz8_0, hfz8_1, hfz8_2, hfz8_3, hfz8_4, hfz8_5, hfz8_6, hfz8_7⟩ := fz8_ BK251
   go_wp2_with (first | ((with_reducible refine gate_callee (f := 75) rfl ?_); refine goesL_ (some 5) rfl rfl Try.func75 (by kernel_rfl) rfl #[.int .i64 a0_2, .int .i64 1, .int .i64 6] rfl mp_q ?_; (with_reducible refine (spec_l01In.calls a0_2 1 6 false _ A4.out).mono ?_); rintro e w' ⟨rfl, ⟨nd, rfl⟩⟩; refine ⟨_, rfl, ?_⟩))
   go_meet
   case rel => exact ⟨_, (true), (by first | rfl | (simp; done) | (simp [*]; done)), H', ⟨by first | omega | exact Nat.le_refl _⟩, ⟨by refine bz_ ?_; exact BK251.out⟩, ⟨bw_q HB⟩⟩
 case rest =>
  clear HC2
  try clear c1
  try clear p2
  try clear c5
  try clear c7
  try clear hcz7_0
  try clear hcz7_1
  try clear hcz7_2
  try clear hcz7_3
  try clear hcz7_4
  try clear hcz7_5
  try clear hcz7_6
  try clear hcz7_7
  try clear hcz8_0
  try clear hcz8_1
  try clear hcz8_2
  try clear hcz8_3
  try clear hcz8_4
  try clear hcz8_5
  try clear hcz8_6
  try clear hcz8_7
  try clear hfz7_0
  try clear hfz7_1
  try clear hfz7_2
  try clear hfz7_3
  try clear hfz7_4
  try clear hfz7_5
  try clear hfz7_6
  try clear hfz7_7
  try clear hfz8_0
  try clear hfz8_1
  try clear hfz8_2
  try clear hfz8_3
  try clear hfz8_4
  try clear hfz8_5
  try clear hfz8_6
  try clear hfz8_7
  obtain ⟨kq, x12_1, rfl, HA, HJ1, BK251, HB⟩ := hcut
  cases kq with
  | zero => exact absurd HA.out (by simp [spec_RecordOk.j0])
  | succ kj1 =>
   have H := HA.out
   clear HA
   simp only [spec_RecordOk.j0] at H
   by_cases c9 : x12_1 = true
   ·subst c9
    have H1 : (some false) = some r := by rw [if_pos rfl] at H; exact H
    clear H
    have H := H1
    clear H1
    obtain rfl := Option.some.inj H
    go_wp2
    go_ret
    exact ⟨er_q, bw_q HB⟩
   ·replace c9 := Bool.eq_false_iff.mpr c9
    subst c9
    have H1 : (if a0_1 = 1 then ((spec_l01In.f a0_0 0 2).bind fun t254 => (if t254 = true then (if a0_3 = 0 then ((spec_l04Near.f kj1 a0_0 a0_1 a0_2 a0_3 a0_4 l0_5 a0_6 a0_7).bind fun t255 => (if t255 = true then (if a0_6 = 0 then (some (!a0_7)) else (some false)) else (some false))) else (some false)) else (some false))) else (if a0_1 = 2 then ((spec_l01In.f a0_0 0 2).bind fun t256 => (if t256 = true then ((spec_l01In.f a0_3 1 6).bind fun t257 => (if t257 = true then (if (l0_5.length : Int) = 0 then ((spec_l01In.f a0_6 0 60000).bind fun t258 => (if t258 = true then (some (!a0_7)) else (some false))) else (some false)) else (some false))) else (some false))) else (if a0_1 = 3 then (if a0_0 = 9 then ((spec_l01In.f a0_3 1 9).bind fun t259 => (if t259 = true then (if (l0_5.length : Int) = 0 then ((spec_l01In.f a0_6 1 1000).bind fun t260 => (if t260 = true then (some true) else (some (a0_6 == 60000)))) else (some false)) else (some false))) else (some false)) else (some false)))) = some r := by rw [if_neg (show ¬ (false = true) by decide)] at H; exact H
    clear H
    have H := H1
    clear H1
    by_cases c10 : a0_1 = 1
    ·rw [if_pos c10] at H
     have c10b0 : (a0_1 == 1) = true := beq_iff_eq.mpr c10
     have c10b1 : (a0_1 != 1) = false := bne_eq_false_iff_eq.mpr c10
     clear c10
     replace H := Option.bind_eq_some_iff.mp H
     obtain ⟨t254, A110, H⟩ := H
     replace H : (if t254 = true then (if a0_3 = 0 then ((spec_l04Near.f kj1 a0_0 a0_1 a0_2 a0_3 a0_4 l0_5 a0_6 a0_7).bind fun t255 => (if t255 = true then (if a0_6 = 0 then (some (!a0_7)) else (some false)) else (some false))) else (some false)) else (some false)) = some r := H
     have A11 := Aside0.mk A110
     clear A110
     by_cases c12 : t254 = true
     ·subst c12
      have H1 : (if a0_3 = 0 then ((spec_l04Near.f kj1 a0_0 a0_1 a0_2 a0_3 a0_4 l0_5 a0_6 a0_7).bind fun t255 => (if t255 = true then (if a0_6 = 0 then (some (!a0_7)) else (some false)) else (some false))) else (some false)) = some r := by rw [if_pos rfl] at H; exact H
      clear H
      have H := H1
      clear H1
      by_cases c13 : a0_3 = 0
      ·rw [if_pos c13] at H
       have c13b0 : (a0_3 == 0) = true := beq_iff_eq.mpr c13
       have c13b1 : (a0_3 != 0) = false := bne_eq_false_iff_eq.mpr c13
       clear c13
       replace H := Option.bind_eq_some_iff.mp H
       obtain ⟨t255, A140, H⟩ := H
       replace H : (if t255 = true then (if a0_6 = 0 then (some (!a0_7)) else (some false)) else (some false)) = some r := H
       have A14 := Aside0.mk A140
       clear A140
       by_cases c15 : t255 = true
       ·subst c15
        have H1 : (if a0_6 = 0 then (some (!a0_7)) else (some false)) = some r := by rw [if_pos rfl] at H; exact H
        clear H
        have H := H1
        clear H1
        by_cases c16 : a0_6 = 0
        ·rw [if_pos c16] at H
         have c16b0 : (a0_6 == 0) = true := beq_iff_eq.mpr c16
         have c16b1 : (a0_6 != 0) = false := bne_eq_false_iff_eq.mpr c16
         clear c16
         obtain rfl := Option.some.inj H
         obtain ⟨hcz17_0, hcz17_1, hcz17_2, hcz17_3, hcz17_4, hcz17_5, hcz17_6, hcz17_7⟩ := cz8_ BK251
         obtain ⟨hfz17_0, hfz17_1, hfz17_2, hfz17_3, hfz17_4, hfz17_5, hfz17_6, hfz17_7⟩ := fz8_ BK251
         go_wp2_with (first | ((with_reducible refine gate_callee (f := 75) rfl ?_); refine goesL_ (some 19) rfl rfl Try.func75 (by kernel_rfl) rfl #[.int .i64 a0_0, .int .i64 0, .int .i64 2] rfl mp_q ?_; (with_reducible refine (spec_l01In.calls a0_0 0 2 true _ A11.out).mono ?_); rintro e w' ⟨rfl, ⟨nd, rfl⟩⟩; refine ⟨_, rfl, ?_⟩) | (go_at_call 148; (with_reducible refine (spec_l04Near.calls kj1 a0_0 a0_1 a0_2 a0_3 a0_4 _ _ l0_5 a0_6 a0_7 true _ ?side1 ?side2 A14.out).mono ?_); (case side1 => repeat (first | exact (Kd.C_below HR0_5.out (bw_q HB)) | (with_reducible refine Kd.C_alloc ?_ _) | (with_reducible refine Kd.C_drewN ?_ _) | (with_reducible refine Kd.C_drew ?_))); (case side2 => exact HC0_5.out); rintro e w18 ⟨rfl, hb⟩; replace BK251 := Aside0.mk (blk_below (g := gb251) (bk_q BK251) hb); replace HB := Aside0.mk (below_step (bw_q HB) hb); (try clear hb); (try clear hb2); (try clear hk); (try clear hi); have hcz19_0 : w18.cell? ⟨gb251, 0, none⟩ = some (.int .i64 a0_0) := (blk_cell BK251.out 0).trans rfl; have hcz19_1 : w18.cell? ⟨gb251, 1, none⟩ = some (.int .i64 a0_1) := (blk_cell BK251.out 1).trans rfl; have hcz19_2 : w18.cell? ⟨gb251, 2, none⟩ = some (.int .i64 a0_2) := (blk_cell BK251.out 2).trans rfl; have hcz19_3 : w18.cell? ⟨gb251, 3, none⟩ = some (.int .i64 a0_3) := (blk_cell BK251.out 3).trans rfl; have hcz19_4 : w18.cell? ⟨gb251, 4, none⟩ = some (.int .i64 a0_4) := (blk_cell BK251.out 4).trans rfl; have hcz19_5 : w18.cell? ⟨gb251, 5, none⟩ = some (.slice A0_5 l0_5.length c0_5) := (blk_cell BK251.out 5).trans rfl; have hcz19_6 : w18.cell? ⟨gb251, 6, none⟩ = some (.int .i64 a0_6) := (blk_cell BK251.out 6).trans rfl; have hcz19_7 : w18.cell? ⟨gb251, 7, none⟩ = some (.bool a0_7) := (blk_cell BK251.out 7).trans rfl; have hfz19_0 := blk_frozen BK251.out 0; have hfz19_1 := blk_frozen BK251.out 1; have hfz19_2 := blk_frozen BK251.out 2; have hfz19_3 := blk_frozen BK251.out 3; have hfz19_4 := blk_frozen BK251.out 4; have hfz19_5 := blk_frozen BK251.out 5; have hfz19_6 := blk_frozen BK251.out 6; have hfz19_7 := blk_frozen BK251.out 7))
         go_ret
         exact ⟨er_q, bw_q HB⟩
        ·rw [if_neg c16] at H
         have c16b0 : (a0_6 == 0) = false := beq_eq_false_iff_ne.mpr c16
         have c16b1 : (a0_6 != 0) = true := bne_iff_ne.mpr c16
         obtain rfl := Option.some.inj H
         obtain ⟨hcz20_0, hcz20_1, hcz20_2, hcz20_3, hcz20_4, hcz20_5, hcz20_6, hcz20_7⟩ := cz8_ BK251
         obtain ⟨hfz20_0, hfz20_1, hfz20_2, hfz20_3, hfz20_4, hfz20_5, hfz20_6, hfz20_7⟩ := fz8_ BK251
         go_wp2_with (first | ((with_reducible refine gate_callee (f := 75) rfl ?_); refine goesL_ (some 19) rfl rfl Try.func75 (by kernel_rfl) rfl #[.int .i64 a0_0, .int .i64 0, .int .i64 2] rfl mp_q ?_; (with_reducible refine (spec_l01In.calls a0_0 0 2 true _ A11.out).mono ?_); rintro e w' ⟨rfl, ⟨nd, rfl⟩⟩; refine ⟨_, rfl, ?_⟩) | (go_at_call 148; (with_reducible refine (spec_l04Near.calls kj1 a0_0 a0_1 a0_2 a0_3 a0_4 _ _ l0_5 a0_6 a0_7 true _ ?side1 ?side2 A14.out).mono ?_); (case side1 => repeat (first | exact (Kd.C_below HR0_5.out (bw_q HB)) | (with_reducible refine Kd.C_alloc ?_ _) | (with_reducible refine Kd.C_drewN ?_ _) | (with_reducible refine Kd.C_drew ?_))); (case side2 => exact HC0_5.out); rintro e w21 ⟨rfl, hb⟩; replace BK251 := Aside0.mk (blk_below (g := gb251) (bk_q BK251) hb); replace HB := Aside0.mk (below_step (bw_q HB) hb); (try clear hb); (try clear hb2); (try clear hk); (try clear hi); have hcz22_0 : w21.cell? ⟨gb251, 0, none⟩ = some (.int .i64 a0_0) := (blk_cell BK251.out 0).trans rfl; have hcz22_1 : w21.cell? ⟨gb251, 1, none⟩ = some (.int .i64 a0_1) := (blk_cell BK251.out 1).trans rfl; have hcz22_2 : w21.cell? ⟨gb251, 2, none⟩ = some (.int .i64 a0_2) := (blk_cell BK251.out 2).trans rfl; have hcz22_3 : w21.cell? ⟨gb251, 3, none⟩ = some (.int .i64 a0_3) := (blk_cell BK251.out 3).trans rfl; have hcz22_4 : w21.cell? ⟨gb251, 4, none⟩ = some (.int .i64 a0_4) := (blk_cell BK251.out 4).trans rfl; have hcz22_5 : w21.cell? ⟨gb251, 5, none⟩ = some (.slice A0_5 l0_5.length c0_5) := (blk_cell BK251.out 5).trans rfl; have hcz22_6 : w21.cell? ⟨gb251, 6, none⟩ = some (.int .i64 a0_6) := (blk_cell BK251.out 6).trans rfl; have hcz22_7 : w21.cell? ⟨gb251, 7, none⟩ = some (.bool a0_7) := (blk_cell BK251.out 7).trans rfl; have hfz22_0 := blk_frozen BK251.out 0; have hfz22_1 := blk_frozen BK251.out 1; have hfz22_2 := blk_frozen BK251.out 2; have hfz22_3 := blk_frozen BK251.out 3; have hfz22_4 := blk_frozen BK251.out 4; have hfz22_5 := blk_frozen BK251.out 5; have hfz22_6 := blk_frozen BK251.out 6; have hfz22_7 := blk_frozen BK251.out 7))
         go_ret
         exact ⟨er_q, bw_q HB⟩
       ·replace c15 := Bool.eq_false_iff.mpr c15
        subst c15
        have H1 : (some false) = some r := by rw [if_neg (show ¬ (false = true) by decide)] at H; exact H
        clear H
        have H := H1
        clear H1
        obtain rfl := Option.some.inj H
        obtain ⟨hcz23_0, hcz23_1, hcz23_2, hcz23_3, hcz23_4, hcz23_5, hcz23_6, hcz23_7⟩ := cz8_ BK251
        obtain ⟨hfz23_0, hfz23_1, hfz23_2, hfz23_3, hfz23_4, hfz23_5, hfz23_6, hfz23_7⟩ := fz8_ BK251
        go_wp2_with (first | ((with_reducible refine gate_callee (f := 75) rfl ?_); refine goesL_ (some 19) rfl rfl Try.func75 (by kernel_rfl) rfl #[.int .i64 a0_0, .int .i64 0, .int .i64 2] rfl mp_q ?_; (with_reducible refine (spec_l01In.calls a0_0 0 2 true _ A11.out).mono ?_); rintro e w' ⟨rfl, ⟨nd, rfl⟩⟩; refine ⟨_, rfl, ?_⟩) | (go_at_call 148; (with_reducible refine (spec_l04Near.calls kj1 a0_0 a0_1 a0_2 a0_3 a0_4 _ _ l0_5 a0_6 a0_7 false _ ?side1 ?side2 A14.out).mono ?_); (case side1 => repeat (first | exact (Kd.C_below HR0_5.out (bw_q HB)) | (with_reducible refine Kd.C_alloc ?_ _) | (with_reducible refine Kd.C_drewN ?_ _) | (with_reducible refine Kd.C_drew ?_))); (case side2 => exact HC0_5.out); rintro e w24 ⟨rfl, hb⟩; replace BK251 := Aside0.mk (blk_below (g := gb251) (bk_q BK251) hb); replace HB := Aside0.mk (below_step (bw_q HB) hb); (try clear hb); (try clear hb2); (try clear hk); (try clear hi)))
        go_ret
        exact ⟨er_q, bw_q HB⟩
      ·rw [if_neg c13] at H
       have c13b0 : (a0_3 == 0) = false := beq_eq_false_iff_ne.mpr c13
       have c13b1 : (a0_3 != 0) = true := bne_iff_ne.mpr c13
       obtain rfl := Option.some.inj H
       obtain ⟨hcz25_0, hcz25_1, hcz25_2, hcz25_3, hcz25_4, hcz25_5, hcz25_6, hcz25_7⟩ := cz8_ BK251
       obtain ⟨hfz25_0, hfz25_1, hfz25_2, hfz25_3, hfz25_4, hfz25_5, hfz25_6, hfz25_7⟩ := fz8_ BK251
       go_wp2_with (first | ((with_reducible refine gate_callee (f := 75) rfl ?_); refine goesL_ (some 19) rfl rfl Try.func75 (by kernel_rfl) rfl #[.int .i64 a0_0, .int .i64 0, .int .i64 2] rfl mp_q ?_; (with_reducible refine (spec_l01In.calls a0_0 0 2 true _ A11.out).mono ?_); rintro e w' ⟨rfl, ⟨nd, rfl⟩⟩; refine ⟨_, rfl, ?_⟩))
       go_ret
       exact ⟨er_q, bw_q HB⟩
     ·replace c12 := Bool.eq_false_iff.mpr c12
      subst c12
      have H1 : (some false) = some r := by rw [if_neg (show ¬ (false = true) by decide)] at H; exact H
      clear H
      have H := H1
      clear H1
      obtain rfl := Option.some.inj H
      obtain ⟨hcz26_0, hcz26_1, hcz26_2, hcz26_3, hcz26_4, hcz26_5, hcz26_6, hcz26_7⟩ := cz8_ BK251
      obtain ⟨hfz26_0, hfz26_1, hfz26_2, hfz26_3, hfz26_4, hfz26_5, hfz26_6, hfz26_7⟩ := fz8_ BK251
      go_wp2_with (first | ((with_reducible refine gate_callee (f := 75) rfl ?_); refine goesL_ (some 19) rfl rfl Try.func75 (by kernel_rfl) rfl #[.int .i64 a0_0, .int .i64 0, .int .i64 2] rfl mp_q ?_; (with_reducible refine (spec_l01In.calls a0_0 0 2 false _ A11.out).mono ?_); rintro e w' ⟨rfl, ⟨nd, rfl⟩⟩; refine ⟨_, rfl, ?_⟩))
      go_ret
      exact ⟨er_q, bw_q HB⟩
    ·rw [if_neg c10] at H
     have c10b0 : (a0_1 == 1) = false := beq_eq_false_iff_ne.mpr c10
     have c10b1 : (a0_1 != 1) = true := bne_iff_ne.mpr c10
     by_cases c27 : a0_1 = 2
     ·rw [if_pos c27] at H
      have c27b0 : (a0_1 == 2) = true := beq_iff_eq.mpr c27
      have c27b1 : (a0_1 != 2) = false := bne_eq_false_iff_eq.mpr c27
      clear c27
      replace H := Option.bind_eq_some_iff.mp H
      obtain ⟨t256, A280, H⟩ := H
      replace H : (if t256 = true then ((spec_l01In.f a0_3 1 6).bind fun t257 => (if t257 = true then (if (l0_5.length : Int) = 0 then ((spec_l01In.f a0_6 0 60000).bind fun t258 => (if t258 = true then (some (!a0_7)) else (some false))) else (some false)) else (some false))) else (some false)) = some r := H
      have A28 := Aside0.mk A280
      clear A280
      by_cases c29 : t256 = true
      ·subst c29
       have H1 : ((spec_l01In.f a0_3 1 6).bind fun t257 => (if t257 = true then (if (l0_5.length : Int) = 0 then ((spec_l01In.f a0_6 0 60000).bind fun t258 => (if t258 = true then (some (!a0_7)) else (some false))) else (some false)) else (some false))) = some r := by rw [if_pos rfl] at H; exact H
       clear H
       have H := H1
       clear H1
       replace H := Option.bind_eq_some_iff.mp H
       obtain ⟨t257, A300, H⟩ := H
       replace H : (if t257 = true then (if (l0_5.length : Int) = 0 then ((spec_l01In.f a0_6 0 60000).bind fun t258 => (if t258 = true then (some (!a0_7)) else (some false))) else (some false)) else (some false)) = some r := H
       have A30 := Aside0.mk A300
       clear A300
       by_cases c31 : t257 = true
       ·subst c31
        have H1 : (if (l0_5.length : Int) = 0 then ((spec_l01In.f a0_6 0 60000).bind fun t258 => (if t258 = true then (some (!a0_7)) else (some false))) else (some false)) = some r := by rw [if_pos rfl] at H; exact H
        clear H
        have H := H1
        clear H1
        by_cases c32 : (l0_5.length : Int) = 0
        ·rw [if_pos c32] at H
         have c32b0 : ((l0_5.length : Int) == 0) = true := beq_iff_eq.mpr c32
         have c32b1 : ((l0_5.length : Int) != 0) = false := bne_eq_false_iff_eq.mpr c32
         clear c32
         replace H := Option.bind_eq_some_iff.mp H
         obtain ⟨t258, A330, H⟩ := H
         replace H : (if t258 = true then (some (!a0_7)) else (some false)) = some r := H
         have A33 := Aside0.mk A330
         clear A330
         by_cases c34 : t258 = true
         ·subst c34
          have H1 : (some (!a0_7)) = some r := by rw [if_pos rfl] at H; exact H
          clear H
          have H := H1
          clear H1
          obtain rfl := Option.some.inj H
          obtain ⟨hcz35_0, hcz35_1, hcz35_2, hcz35_3, hcz35_4, hcz35_5, hcz35_6, hcz35_7⟩ := cz8_ BK251
          obtain ⟨hfz35_0, hfz35_1, hfz35_2, hfz35_3, hfz35_4, hfz35_5, hfz35_6, hfz35_7⟩ := fz8_ BK251
          go_wp2_with (first | ((with_reducible refine gate_callee (f := 75) rfl ?_); refine goesL_ (some 43) rfl rfl Try.func75 (by kernel_rfl) rfl #[.int .i64 a0_0, .int .i64 0, .int .i64 2] rfl mp_q ?_; (with_reducible refine (spec_l01In.calls a0_0 0 2 true _ A28.out).mono ?_); rintro e w' ⟨rfl, ⟨nd, rfl⟩⟩; refine ⟨_, rfl, ?_⟩) | (go_at_call 75; (with_reducible refine (spec_l01In.calls a0_3 1 6 true _ A30.out).mono ?_); rintro e w' ⟨rfl, ⟨nd, rfl⟩⟩) | (go_at_call 75; (with_reducible refine (spec_l01In.calls a0_6 0 60000 true _ A33.out).mono ?_); rintro e w' ⟨rfl, ⟨nd, rfl⟩⟩))
          go_ret
          exact ⟨er_q, bw_q HB⟩
         ·replace c34 := Bool.eq_false_iff.mpr c34
          subst c34
          have H1 : (some false) = some r := by rw [if_neg (show ¬ (false = true) by decide)] at H; exact H
          clear H
          have H := H1
          clear H1
          obtain rfl := Option.some.inj H
          obtain ⟨hcz36_0, hcz36_1, hcz36_2, hcz36_3, hcz36_4, hcz36_5, hcz36_6, hcz36_7⟩ := cz8_ BK251
          obtain ⟨hfz36_0, hfz36_1, hfz36_2, hfz36_3, hfz36_4, hfz36_5, hfz36_6, hfz36_7⟩ := fz8_ BK251
          go_wp2_with (first | ((with_reducible refine gate_callee (f := 75) rfl ?_); refine goesL_ (some 43) rfl rfl Try.func75 (by kernel_rfl) rfl #[.int .i64 a0_0, .int .i64 0, .int .i64 2] rfl mp_q ?_; (with_reducible refine (spec_l01In.calls a0_0 0 2 true _ A28.out).mono ?_); rintro e w' ⟨rfl, ⟨nd, rfl⟩⟩; refine ⟨_, rfl, ?_⟩) | (go_at_call 75; (with_reducible refine (spec_l01In.calls a0_3 1 6 true _ A30.out).mono ?_); rintro e w' ⟨rfl, ⟨nd, rfl⟩⟩) | (go_at_call 75; (with_reducible refine (spec_l01In.calls a0_6 0 60000 false _ A33.out).mono ?_); rintro e w' ⟨rfl, ⟨nd, rfl⟩⟩))
          go_ret
          exact ⟨er_q, bw_q HB⟩
        ·rw [if_neg c32] at H
         have c32b0 : ((l0_5.length : Int) == 0) = false := beq_eq_false_iff_ne.mpr c32
         have c32b1 : ((l0_5.length : Int) != 0) = true := bne_iff_ne.mpr c32
         have c32b2 : ¬ (l0_5 = []) := fun h_ => c32 (by rw [h_]; rfl)
         obtain rfl := Option.some.inj H
         obtain ⟨hcz37_0, hcz37_1, hcz37_2, hcz37_3, hcz37_4, hcz37_5, hcz37_6, hcz37_7⟩ := cz8_ BK251
         obtain ⟨hfz37_0, hfz37_1, hfz37_2, hfz37_3, hfz37_4, hfz37_5, hfz37_6, hfz37_7⟩ := fz8_ BK251
         go_wp2_with (first | ((with_reducible refine gate_callee (f := 75) rfl ?_); refine goesL_ (some 43) rfl rfl Try.func75 (by kernel_rfl) rfl #[.int .i64 a0_0, .int .i64 0, .int .i64 2] rfl mp_q ?_; (with_reducible refine (spec_l01In.calls a0_0 0 2 true _ A28.out).mono ?_); rintro e w' ⟨rfl, ⟨nd, rfl⟩⟩; refine ⟨_, rfl, ?_⟩) | (go_at_call 75; (with_reducible refine (spec_l01In.calls a0_3 1 6 true _ A30.out).mono ?_); rintro e w' ⟨rfl, ⟨nd, rfl⟩⟩))
         go_ret
         exact ⟨er_q, bw_q HB⟩
       ·replace c31 := Bool.eq_false_iff.mpr c31
        subst c31
        have H1 : (some false) = some r := by rw [if_neg (show ¬ (false = true) by decide)] at H; exact H
        clear H
        have H := H1
        clear H1
        obtain rfl := Option.some.inj H
        obtain ⟨hcz38_0, hcz38_1, hcz38_2, hcz38_3, hcz38_4, hcz38_5, hcz38_6, hcz38_7⟩ := cz8_ BK251
        obtain ⟨hfz38_0, hfz38_1, hfz38_2, hfz38_3, hfz38_4, hfz38_5, hfz38_6, hfz38_7⟩ := fz8_ BK251
        go_wp2_with (first | ((with_reducible refine gate_callee (f := 75) rfl ?_); refine goesL_ (some 43) rfl rfl Try.func75 (by kernel_rfl) rfl #[.int .i64 a0_0, .int .i64 0, .int .i64 2] rfl mp_q ?_; (with_reducible refine (spec_l01In.calls a0_0 0 2 true _ A28.out).mono ?_); rintro e w' ⟨rfl, ⟨nd, rfl⟩⟩; refine ⟨_, rfl, ?_⟩) | (go_at_call 75; (with_reducible refine (spec_l01In.calls a0_3 1 6 false _ A30.out).mono ?_); rintro e w' ⟨rfl, ⟨nd, rfl⟩⟩))
        go_ret
        exact ⟨er_q, bw_q HB⟩
      ·replace c29 := Bool.eq_false_iff.mpr c29
       subst c29
       have H1 : (some false) = some r := by rw [if_neg (show ¬ (false = true) by decide)] at H; exact H
       clear H
       have H := H1
       clear H1
       obtain rfl := Option.some.inj H
       obtain ⟨hcz39_0, hcz39_1, hcz39_2, hcz39_3, hcz39_4, hcz39_5, hcz39_6, hcz39_7⟩ := cz8_ BK251
       obtain ⟨hfz39_0, hfz39_1, hfz39_2, hfz39_3, hfz39_4, hfz39_5, hfz39_6, hfz39_7⟩ := fz8_ BK251
       go_wp2_with (first | ((with_reducible refine gate_callee (f := 75) rfl ?_); refine goesL_ (some 43) rfl rfl Try.func75 (by kernel_rfl) rfl #[.int .i64 a0_0, .int .i64 0, .int .i64 2] rfl mp_q ?_; (with_reducible refine (spec_l01In.calls a0_0 0 2 false _ A28.out).mono ?_); rintro e w' ⟨rfl, ⟨nd, rfl⟩⟩; refine ⟨_, rfl, ?_⟩))
       go_ret
       exact ⟨er_q, bw_q HB⟩
     ·rw [if_neg c27] at H
      have c27b0 : (a0_1 == 2) = false := beq_eq_false_iff_ne.mpr c27
      have c27b1 : (a0_1 != 2) = true := bne_iff_ne.mpr c27
      by_cases c40 : a0_1 = 3
      ·rw [if_pos c40] at H
       have c40b0 : (a0_1 == 3) = true := beq_iff_eq.mpr c40
       have c40b1 : (a0_1 != 3) = false := bne_eq_false_iff_eq.mpr c40
       clear c40
       by_cases c41 : a0_0 = 9
       ·rw [if_pos c41] at H
        have c41b0 : (a0_0 == 9) = true := beq_iff_eq.mpr c41
        have c41b1 : (a0_0 != 9) = false := bne_eq_false_iff_eq.mpr c41
        clear c41
        replace H := Option.bind_eq_some_iff.mp H
        obtain ⟨t259, A420, H⟩ := H
        replace H : (if t259 = true then (if (l0_5.length : Int) = 0 then ((spec_l01In.f a0_6 1 1000).bind fun t260 => (if t260 = true then (some true) else (some (a0_6 == 60000)))) else (some false)) else (some false)) = some r := H
        have A42 := Aside0.mk A420
        clear A420
        by_cases c43 : t259 = true
        ·subst c43
         have H1 : (if (l0_5.length : Int) = 0 then ((spec_l01In.f a0_6 1 1000).bind fun t260 => (if t260 = true then (some true) else (some (a0_6 == 60000)))) else (some false)) = some r := by rw [if_pos rfl] at H; exact H
         clear H
         have H := H1
         clear H1
         by_cases c44 : (l0_5.length : Int) = 0
         ·rw [if_pos c44] at H
          have c44b0 : ((l0_5.length : Int) == 0) = true := beq_iff_eq.mpr c44
          have c44b1 : ((l0_5.length : Int) != 0) = false := bne_eq_false_iff_eq.mpr c44
          clear c44
          replace H := Option.bind_eq_some_iff.mp H
          obtain ⟨t260, A450, H⟩ := H
          replace H : (if t260 = true then (some true) else (some (a0_6 == 60000))) = some r := H
          have A45 := Aside0.mk A450
          clear A450
          by_cases c46 : t260 = true
          ·subst c46
           have H1 : (some true) = some r := by rw [if_pos rfl] at H; exact H
           clear H
           have H := H1
           clear H1
           obtain rfl := Option.some.inj H
           obtain ⟨hcz47_0, hcz47_1, hcz47_2, hcz47_3, hcz47_4, hcz47_5, hcz47_6, hcz47_7⟩ := cz8_ BK251
           obtain ⟨hfz47_0, hfz47_1, hfz47_2, hfz47_3, hfz47_4, hfz47_5, hfz47_6, hfz47_7⟩ := fz8_ BK251
           go_wp2_with (first | (go_at_call 75; (with_reducible refine (spec_l01In.calls a0_3 1 9 true _ A42.out).mono ?_); rintro e w' ⟨rfl, ⟨nd, rfl⟩⟩) | (go_at_call 75; (with_reducible refine (spec_l01In.calls a0_6 1 1000 true _ A45.out).mono ?_); rintro e w' ⟨rfl, ⟨nd, rfl⟩⟩))
           go_ret
           exact ⟨er_q, bw_q HB⟩
          ·replace c46 := Bool.eq_false_iff.mpr c46
           subst c46
           have H1 : (some (a0_6 == 60000)) = some r := by rw [if_neg (show ¬ (false = true) by decide)] at H; exact H
           clear H
           have H := H1
           clear H1
           obtain rfl := Option.some.inj H
           obtain ⟨hcz48_0, hcz48_1, hcz48_2, hcz48_3, hcz48_4, hcz48_5, hcz48_6, hcz48_7⟩ := cz8_ BK251
           obtain ⟨hfz48_0, hfz48_1, hfz48_2, hfz48_3, hfz48_4, hfz48_5, hfz48_6, hfz48_7⟩ := fz8_ BK251
           go_wp2_with (first | (go_at_call 75; (with_reducible refine (spec_l01In.calls a0_3 1 9 true _ A42.out).mono ?_); rintro e w' ⟨rfl, ⟨nd, rfl⟩⟩) | (go_at_call 75; (with_reducible refine (spec_l01In.calls a0_6 1 1000 false _ A45.out).mono ?_); rintro e w' ⟨rfl, ⟨nd, rfl⟩⟩))
           go_ret
           exact ⟨er_q, bw_q HB⟩
         ·rw [if_neg c44] at H
          have c44b0 : ((l0_5.length : Int) == 0) = false := beq_eq_false_iff_ne.mpr c44
          have c44b1 : ((l0_5.length : Int) != 0) = true := bne_iff_ne.mpr c44
          have c44b2 : ¬ (l0_5 = []) := fun h_ => c44 (by rw [h_]; rfl)
          obtain rfl := Option.some.inj H
          obtain ⟨hcz49_0, hcz49_1, hcz49_2, hcz49_3, hcz49_4, hcz49_5, hcz49_6, hcz49_7⟩ := cz8_ BK251
          obtain ⟨hfz49_0, hfz49_1, hfz49_2, hfz49_3, hfz49_4, hfz49_5, hfz49_6, hfz49_7⟩ := fz8_ BK251
          go_wp2_with (first | (go_at_call 75; (with_reducible refine (spec_l01In.calls a0_3 1 9 true _ A42.out).mono ?_); rintro e w' ⟨rfl, ⟨nd, rfl⟩⟩))
          go_ret
          exact ⟨er_q, bw_q HB⟩
        ·replace c43 := Bool.eq_false_iff.mpr c43
         subst c43
         have H1 : (some false) = some r := by rw [if_neg (show ¬ (false = true) by decide)] at H; exact H
         clear H
         have H := H1
         clear H1
         obtain rfl := Option.some.inj H
         obtain ⟨hcz50_0, hcz50_1, hcz50_2, hcz50_3, hcz50_4, hcz50_5, hcz50_6, hcz50_7⟩ := cz8_ BK251
         obtain ⟨hfz50_0, hfz50_1, hfz50_2, hfz50_3, hfz50_4, hfz50_5, hfz50_6, hfz50_7⟩ := fz8_ BK251
         go_wp2_with (first | (go_at_call 75; (with_reducible refine (spec_l01In.calls a0_3 1 9 false _ A42.out).mono ?_); rintro e w' ⟨rfl, ⟨nd, rfl⟩⟩))
         go_ret
         exact ⟨er_q, bw_q HB⟩
       ·rw [if_neg c41] at H
        have c41b0 : (a0_0 == 9) = false := beq_eq_false_iff_ne.mpr c41
        have c41b1 : (a0_0 != 9) = true := bne_iff_ne.mpr c41
        obtain rfl := Option.some.inj H
        obtain ⟨hcz51_0, hcz51_1, hcz51_2, hcz51_3, hcz51_4, hcz51_5, hcz51_6, hcz51_7⟩ := cz8_ BK251
        obtain ⟨hfz51_0, hfz51_1, hfz51_2, hfz51_3, hfz51_4, hfz51_5, hfz51_6, hfz51_7⟩ := fz8_ BK251
        go_wp2
        go_ret
        exact ⟨er_q, bw_q HB⟩
      ·rw [if_neg c40] at H
       have c40b0 : (a0_1 == 3) = false := beq_eq_false_iff_ne.mpr c40
       have c40b1 : (a0_1 != 3) = true := bne_iff_ne.mpr c40
       obtain rfl := Option.some.inj H
       obtain ⟨hcz52_0, hcz52_1, hcz52_2, hcz52_3, hcz52_4, hcz52_5, hcz52_6, hcz52_7⟩ := cz8_ BK251
       obtain ⟨hfz52_0, hfz52_1, hfz52_2, hfz52_3, hfz52_4, hfz52_5, hfz52_6, hfz52_7⟩ := fz8_ BK251
       go_wp2
       go_ret
       exact ⟨er_q, bw_q HB⟩

end Go.Proofs.Ythjmdiggglkeaaa.Q

/- A Go function as a Lean function, and its contract: for every input the Go code comes to what the Lean function tells. -/



namespace Go.Proofs.Ythjmdiggglkeaaa.Q
open Go.RowKit Go.Proofs.YthjmdiggglkeaaaW.PrintWords Go.Proofs.YthjmdiggglkeaaaW.PrintLast Go.Proofs.YthjmdiggglkeaaaW.PrintMore
attribute [local go_sem] max2_int min2_int max_two min_two max_three min_three max_four min_four   -- for this text's walks alone
set_option linter.unusedVariables false
set_option linter.unusedSimpArgs false

/-! ### spec_StoreOk: function 88 -/
def spec_StoreOk.l0 : Nat → List (S61) → Int → Option (Bool)
 | 0, _, _ => none
 | k + 1, x0, x3 => if x3 < (x0.length : Int) then (if 0 ≤ x3 then ((spec_RecordOk.f k ((rd_T61 x0 x3).f0) ((rd_T61 x0 x3).f1) ((rd_T61 x0 x3).f2) ((rd_T61 x0 x3).f3) ((rd_T61 x0 x3).f4) ((rd_T61 x0 x3).f5) ((rd_T61 x0 x3).f6) ((rd_T61 x0 x3).f7)).bind fun t262 => (if t262 = true then (if x3 > 0 then (if 0 ≤ (wrap64 (x3 - 1)) then (if (wrap64 (x3 - 1)) < (x0.length : Int) then ((spec_Before.f ((rd_T61 x0 (wrap64 (x3 - 1))).f0) ((rd_T61 x0 (wrap64 (x3 - 1))).f1) ((rd_T61 x0 (wrap64 (x3 - 1))).f2) ((rd_T61 x0 (wrap64 (x3 - 1))).f3) ((rd_T61 x0 (wrap64 (x3 - 1))).f4) ((rd_T61 x0 (wrap64 (x3 - 1))).f5) ((rd_T61 x0 (wrap64 (x3 - 1))).f6) ((rd_T61 x0 (wrap64 (x3 - 1))).f7) ((rd_T61 x0 x3).f0) ((rd_T61 x0 x3).f1) ((rd_T61 x0 x3).f2) ((rd_T61 x0 x3).f3) ((rd_T61 x0 x3).f4) ((rd_T61 x0 x3).f5) ((rd_T61 x0 x3).f6) ((rd_T61 x0 x3).f7)).bind fun t264 => (if t264 = true then (spec_StoreOk.l0 k x0 (wrap64 (x3 + 1))) else (some false))) else (none)) else (none)) else (spec_StoreOk.l0 k x0 (wrap64 (x3 + 1)))) else (some false))) else (none)) else (some true)
def spec_StoreOk.f (k : Nat) (l0 : List (S61)) : Option (Bool) := if (l0.length : Int) > 150 then (some false) else (spec_StoreOk.l0 k l0 0)
theorem spec_StoreOk.mono_l : ∀ k, (∀ y0 y1, LeO (spec_StoreOk.l0 k y0 y1) (spec_StoreOk.l0 (k + 1) y0 y1))
 | 0 => fun _ _ r h => by simp [spec_StoreOk.l0] at h
 | k + 1 => by
  have ih0 := spec_StoreOk.mono_l k
  ·intro y0 y1
   unfold spec_StoreOk.l0
   repeat' first
   | (with_reducible exact ih0 _ _)
   | (with_reducible exact spec_RecordOk.mono _ _ _ _ _ _ _ _ _)
   | (with_reducible exact LeO.refl _)
   | (with_reducible exact LeO.none _)
   | (with_reducible refine LeO.ite ?_ ?_)
   | (with_reducible refine LeO.bind ?_ (fun _ => ?_))
   | exact ih0 _ _
   | exact spec_RecordOk.mono _ _ _ _ _ _ _ _ _
   | exact LeO.none _
   | refine LeO.ite ?_ ?_
   | refine LeO.bind ?_ (fun _ => ?_)
theorem spec_StoreOk.mono : ∀ a0 k, LeO (spec_StoreOk.f k a0) (spec_StoreOk.f (k + 1) a0) := by
 intro a0 k
 have ih0 := spec_StoreOk.mono_l k
 unfold spec_StoreOk.f
 repeat' first
   | (with_reducible exact ih0 _ _)
   | (with_reducible exact spec_RecordOk.mono _ _ _ _ _ _ _ _ _)
   | (with_reducible exact LeO.refl _)
   | (with_reducible exact LeO.none _)
   | (with_reducible refine LeO.ite ?_ ?_)
   | (with_reducible refine LeO.bind ?_ (fun _ => ?_))
   | exact ih0 _ _
   | exact spec_RecordOk.mono _ _ _ _ _ _ _ _ _
   | exact LeO.none _
   | refine LeO.ite ?_ ?_
   | refine LeO.bind ?_ (fun _ => ?_)
def spec_StoreOk.T6 : Bool × List (List Nat × List Nat) := (true, [([], []), ([], []), ([0, 1], [0, 1]), ([2], [2]), ([3], [3]), ([4], [4]), ([5, 4], [5]), ([6], [6]), ([7, 6], [6, 7]), ([8, 6, 6], [6, 8]), ([9], [9]), ([9], [9]), ([11, 9], [9, 11]), ([10, 12, 9], [9, 10, 12]), ([13, 9], [9, 13]), ([9], [9]), ([9], [9]), ([15, 16, 9], [9, 15, 16]), ([17, 9], [9, 17]), ([14, 18, 9, 9], [9, 14, 18]), ([19, 9], [9, 19]), ([9, 20, 6], [6, 9, 20]), ([6, 21], [6, 21])])
def spec_StoreOk.B6 : List Nat := [0, 0, 3, 7, 15, 31, 63, 127, 255, 511, 1023, 1023, 3071, 8191, 16383, 1023, 1023, 99327, 230399, 524287, 1048575, 2097151, 4194303]
theorem spec_StoreOk.tab6 : rtab .any (opsOf Try.f88 6) = spec_StoreOk.T6 := by kernel_rfl
theorem spec_StoreOk.bits6 : waitsOk spec_StoreOk.T6.2 spec_StoreOk.B6 = true := by kernel_rfl
set_option maxHeartbeats 8000000 in
set_option maxRecDepth 100000 in
theorem spec_StoreOk.calls (k : Nat) (A0 : Option Addr) (c0 : Nat) (l0 : List (S61)) (r : Bool) (w : World) (hr0 : Kd.C k61 w A0 l0.length l0) (hc0 : l0.length ≤ c0) (h : spec_StoreOk.f k l0 = some r) :
  Calls Try.prog 88 #[.slice A0 l0.length c0] w fun e w' => e = .returned (.bool r) ∧ Below w.heap.size w w' := by
 have hu61 := Try.underlying61
 have HR0 := Aside0.mk hr0
 have HC0 := Aside0.mk hc0
 clear hr0 hc0
 have HB := Aside0.mk (Below.refl w.heap.size w)
 have H : (if (l0.length : Int) > 150 then (some false) else (spec_StoreOk.l0 k l0 0)) = some r := h
 clear h
 by_cases c2 : (l0.length : Int) > 150
 ·rw [if_pos c2] at H
  have c2b0 : decide (150 < (l0.length : Int)) = true := decide_eq_true c2
  have c2b1 : decide (150 < l0.length) = true := decide_eq_true (by omega)
  clear c2
  obtain rfl := Option.some.inj H
  go_enter Try.func88, Try.ntmps88
  go_wp2
  go_ret
  exact ⟨er_q, bw_q HB⟩
 ·rw [if_neg c2] at H
  have c2b0 : decide (150 < (l0.length : Int)) = false := decide_eq_false c2
  have c2b1 : decide (150 < l0.length) = false := decide_eq_false (by omega)
  clear c2
  have H' := Aside0.mk H
  clear H
  go_enter Try.func88, Try.ntmps88
  go_wp2
  go_loopg [3] k (fun kq v3 w' => ∃ (x3_1 : Int), v3 = .int .i64 x3_1 ∧ Aside0 (spec_StoreOk.l0 kq l0 x3_1 = some r) ∧ Aside0 (kq ≤ k) ∧ Aside0 (Below w.heap.size w w'))
  case atStart => exact ⟨(0), (by first | rfl | (simp; done) | (simp [*]; done)), H', ⟨Nat.le_refl _⟩, ⟨bw_q HB⟩⟩
  case round =>
   clear H'
   try clear c2
   try clear c2b0
   try clear c2b1
   try clear p2
   obtain ⟨x3_1, rfl, HA, HK1, HB⟩ := hrel
   cases gk with
   | zero => exact absurd HA.out (by simp [spec_StoreOk.l0])
   | succ k1 =>
    have H := HA.out
    clear HA
    simp only [spec_StoreOk.l0] at H
    by_cases c3 : x3_1 < (l0.length : Int)
    ·rw [if_pos c3] at H
     have c3b0 : decide (x3_1 < (l0.length : Int)) = true := decide_eq_true c3
     clear c3
     by_cases c4 : 0 ≤ x3_1
     ·rw [if_pos c4] at H
      have c4b0 : decide (0 ≤ x3_1) = true := decide_eq_true c4
      clear c4
      replace H := Option.bind_eq_some_iff.mp H
      obtain ⟨t262, A50, H⟩ := H
      replace H : (if t262 = true then (if x3_1 > 0 then (if 0 ≤ (wrap64 (x3_1 - 1)) then (if (wrap64 (x3_1 - 1)) < (l0.length : Int) then ((spec_Before.f ((rd_T61 l0 (wrap64 (x3_1 - 1))).f0) ((rd_T61 l0 (wrap64 (x3_1 - 1))).f1) ((rd_T61 l0 (wrap64 (x3_1 - 1))).f2) ((rd_T61 l0 (wrap64 (x3_1 - 1))).f3) ((rd_T61 l0 (wrap64 (x3_1 - 1))).f4) ((rd_T61 l0 (wrap64 (x3_1 - 1))).f5) ((rd_T61 l0 (wrap64 (x3_1 - 1))).f6) ((rd_T61 l0 (wrap64 (x3_1 - 1))).f7) ((rd_T61 l0 x3_1).f0) ((rd_T61 l0 x3_1).f1) ((rd_T61 l0 x3_1).f2) ((rd_T61 l0 x3_1).f3) ((rd_T61 l0 x3_1).f4) ((rd_T61 l0 x3_1).f5) ((rd_T61 l0 x3_1).f6) ((rd_T61 l0 x3_1).f7)).bind fun t264 => (if t264 = true then (spec_StoreOk.l0 k1 l0 (wrap64 (x3_1 + 1))) else (some false))) else (none)) else (none)) else (spec_StoreOk.l0 k1 l0 (wrap64 (x3_1 + 1)))) else (some false)) = some r := H
      have A5 := Aside0.mk A50
      clear A50
      have HZ35 := Aside0.mk H
      clear H
      try go_wp2
      replace HB := Aside0.mk (below_drew1 HB.out)
      have p261 : 0 ≤ (x3_1 : Int) := of_decide_eq_true as_q
      have q261 : x3_1 < (l0.length : Int) := of_decide_eq_true as_q
      obtain ⟨ad261, A261_5, c261_5, e261, hx261_0, hx261_1, hx261_2, hx261_3, hx261_4, hx261_5, hx261_6, hx261_7, hl261_5, hi261_5⟩ := at_T61 HR0.out x3_1 p261 q261
      have hw261_7 := hx261_7
      have hw261_6 := hx261_6
      have hw261_5 := hx261_5
      have hw261_4 := hx261_4
      have hw261_3 := hx261_3
      have hw261_2 := hx261_2
      have hw261_1 := hx261_1
      have hw261_0 := hx261_0
      cases e261
      replace hx261_0 := (HB.out.cell (World.block_lt_of_cell? w _ hx261_0)).trans hx261_0
      replace hx261_1 := (HB.out.cell (World.block_lt_of_cell? w _ hx261_1)).trans hx261_1
      replace hx261_2 := (HB.out.cell (World.block_lt_of_cell? w _ hx261_2)).trans hx261_2
      replace hx261_3 := (HB.out.cell (World.block_lt_of_cell? w _ hx261_3)).trans hx261_3
      replace hx261_4 := (HB.out.cell (World.block_lt_of_cell? w _ hx261_4)).trans hx261_4
      replace hx261_5 := (HB.out.cell (World.block_lt_of_cell? w _ hx261_5)).trans hx261_5
      replace hx261_6 := (HB.out.cell (World.block_lt_of_cell? w _ hx261_6)).trans hx261_6
      replace hx261_7 := (HB.out.cell (World.block_lt_of_cell? w _ hx261_7)).trans hx261_7
      have HR261_5 := Aside0.mk hi261_5
      have HC261_5 := Aside0.mk hl261_5
      clear hi261_5 hl261_5
      replace p261 := eq_true p261
      replace q261 := eq_true q261
      refine start_ (n := 23) (S := fun w' => w'.cell? (ad261.add ((x3_1).toNat * 8)) = some (.int .i64 ((rd_T61 l0 x3_1).f0)) ∧ w'.cell? ⟨(ad261.add ((x3_1).toNat * 8)).block, (ad261.add ((x3_1).toNat * 8)).off + 1, none⟩ = some (.int .i64 ((rd_T61 l0 x3_1).f1)) ∧ w'.cell? ⟨(ad261.add ((x3_1).toNat * 8)).block, (ad261.add ((x3_1).toNat * 8)).off + 2, none⟩ = some (.int .i64 ((rd_T61 l0 x3_1).f2)) ∧ w'.cell? ⟨(ad261.add ((x3_1).toNat * 8)).block, (ad261.add ((x3_1).toNat * 8)).off + 3, none⟩ = some (.int .i64 ((rd_T61 l0 x3_1).f3)) ∧ w'.cell? ⟨(ad261.add ((x3_1).toNat * 8)).block, (ad261.add ((x3_1).toNat * 8)).off + 4, none⟩ = some (.int .i64 ((rd_T61 l0 x3_1).f4)) ∧ w'.cell? ⟨(ad261.add ((x3_1).toNat * 8)).block, (ad261.add ((x3_1).toNat * 8)).off + 5, none⟩ = some (.slice A261_5 ((rd_T61 l0 x3_1).f5).length c261_5) ∧ w'.cell? ⟨(ad261.add ((x3_1).toNat * 8)).block, (ad261.add ((x3_1).toNat * 8)).off + 6, none⟩ = some (.int .i64 ((rd_T61 l0 x3_1).f6)) ∧ w'.cell? ⟨(ad261.add ((x3_1).toNat * 8)).block, (ad261.add ((x3_1).toNat * 8)).off + 7, none⟩ = some (.bool ((rd_T61 l0 x3_1).f7))) (ds := []) (bL 23 0) (by kernel_rfl) rfl rfl ⟨((HB.out.cell (World.block_lt_of_cell? w _ hw261_0)).trans hw261_0), ((HB.out.cell (World.block_lt_of_cell? w _ hw261_1)).trans hw261_1), ((HB.out.cell (World.block_lt_of_cell? w _ hw261_2)).trans hw261_2), ((HB.out.cell (World.block_lt_of_cell? w _ hw261_3)).trans hw261_3), ((HB.out.cell (World.block_lt_of_cell? w _ hw261_4)).trans hw261_4), ((HB.out.cell (World.block_lt_of_cell? w _ hw261_5)).trans hw261_5), ((HB.out.cell (World.block_lt_of_cell? w _ hw261_6)).trans hw261_6), ((HB.out.cell (World.block_lt_of_cell? w _ hw261_7)).trans hw261_7)⟩ (fun hHeld => ?_); refine with_tabW spec_StoreOk.tab6 spec_StoreOk.bits6 (fun HT_ HW_ => ?_)
      generalize wr.drew = w13 at HB HR261_5 hx261_0 hx261_1 hx261_2 hx261_3 hx261_4 hx261_5 hx261_6 hx261_7 hHeld ⊢
      refine pq_ 0 13 (bL 23 1) HT_.out rfl rfl ?_
      refine pq_ 1 14 (bL 23 3) HT_.out rfl rfl ?_
      refine pq_ 2 15 (bL 23 7) HT_.out rfl rfl ?_
      refine take_ (i := 3) (N := some 16) (v := ?_) (a' := ?_) (bL 23 15) rfl rfl (take_ofW HT_.out HW_.out (by kernel_rfl)) (fun _ _ _ h => h) (Or.inl ⟨by rfl, ?_⟩) hHeld ?_ ?_; rotate_left; (rintro w' ⟨s0, s1, s2, s3, s4, s5, s6, s7⟩; go_simp; with_reducible rfl); rotate_left; (exact put_q)
      refine one_ (i := 4) (N := some 17) (bL 23 31) rfl rfl (one_of HT_.out (by kernel_rfl)) (by decide) (fun K hK => ?_)
      refine goes_ Try.func131 (by kernel_rfl) rfl #[.agg #[.int .i64 ((rd_T61 l0 x3_1).f0), .int .i64 ((rd_T61 l0 x3_1).f1), .int .i64 ((rd_T61 l0 x3_1).f2), .int .i64 ((rd_T61 l0 x3_1).f3), .int .i64 ((rd_T61 l0 x3_1).f4), .slice A261_5 ((rd_T61 l0 x3_1).f5).length c261_5, .int .i64 ((rd_T61 l0 x3_1).f6), .bool ((rd_T61 l0 x3_1).f7)]] (by rfl) rfl rfl mp_q ?_
      with_reducible refine (spec_RecordOk.calls k1 ((rd_T61 l0 x3_1).f0) ((rd_T61 l0 x3_1).f1) ((rd_T61 l0 x3_1).f2) ((rd_T61 l0 x3_1).f3) ((rd_T61 l0 x3_1).f4) _ _ ((rd_T61 l0 x3_1).f5) ((rd_T61 l0 x3_1).f6) ((rd_T61 l0 x3_1).f7) t262 _ ?side1 ?side2 A5.out).mono ?_
      (case side1 => exact cs_q (Kd.C_below HR261_5.out HB.out))
      (case side2 => exact HC261_5.out)
      rintro e w14 ⟨rfl, hb⟩
      refine ⟨_, rfl, ?_⟩
      replace HB := Aside0.mk (below_step (bw_q HB) hb)
      (try clear hb)
      (try clear hb2)
      (try clear hk)
      (try clear hi)
      refine hK.out _ _ ⟨((HB.out.cell (World.block_lt_of_cell? w _ hw261_0)).trans hw261_0), ((HB.out.cell (World.block_lt_of_cell? w _ hw261_1)).trans hw261_1), ((HB.out.cell (World.block_lt_of_cell? w _ hw261_2)).trans hw261_2), ((HB.out.cell (World.block_lt_of_cell? w _ hw261_3)).trans hw261_3), ((HB.out.cell (World.block_lt_of_cell? w _ hw261_4)).trans hw261_4), ((HB.out.cell (World.block_lt_of_cell? w _ hw261_5)).trans hw261_5), ((HB.out.cell (World.block_lt_of_cell? w _ hw261_6)).trans hw261_6), ((HB.out.cell (World.block_lt_of_cell? w _ hw261_7)).trans hw261_7)⟩ (fun hHeld => ?_)
      clear hK K
      refine norm_ (a' := ?_) ?_ ?_; rotate_left; (show Act.put _ (some 17) _ = _; simp only [Act.put, List.setIfInBounds_toArray, List.set_cons_zero, List.set_cons_succ, i64_w, i32_w]; rfl)
      refine pq_ 5 18 (bL 23 63) HT_.out rfl rfl ?_
      refine pq_ 6 19 (bL 23 127) HT_.out rfl rfl ?_
      have H := HZ35.out
      clear HZ35
      by_cases c6 : t262 = true
      ·subst c6
       have H1 : (if x3_1 > 0 then (if 0 ≤ (wrap64 (x3_1 - 1)) then (if (wrap64 (x3_1 - 1)) < (l0.length : Int) then ((spec_Before.f ((rd_T61 l0 (wrap64 (x3_1 - 1))).f0) ((rd_T61 l0 (wrap64 (x3_1 - 1))).f1) ((rd_T61 l0 (wrap64 (x3_1 - 1))).f2) ((rd_T61 l0 (wrap64 (x3_1 - 1))).f3) ((rd_T61 l0 (wrap64 (x3_1 - 1))).f4) ((rd_T61 l0 (wrap64 (x3_1 - 1))).f5) ((rd_T61 l0 (wrap64 (x3_1 - 1))).f6) ((rd_T61 l0 (wrap64 (x3_1 - 1))).f7) ((rd_T61 l0 x3_1).f0) ((rd_T61 l0 x3_1).f1) ((rd_T61 l0 x3_1).f2) ((rd_T61 l0 x3_1).f3) ((rd_T61 l0 x3_1).f4) ((rd_T61 l0 x3_1).f5) ((rd_T61 l0 x3_1).f6) ((rd_T61 l0 x3_1).f7)).bind fun t264 => (if t264 = true then (spec_StoreOk.l0 k1 l0 (wrap64 (x3_1 + 1))) else (some false))) else (none)) else (none)) else (spec_StoreOk.l0 k1 l0 (wrap64 (x3_1 + 1)))) = some r := by rw [if_pos rfl] at H; exact H
       clear H
       have H := H1
       clear H1
       have HZ36 := Aside0.mk H
       clear H
       refine pq_ 7 20 (bL 23 255) HT_.out rfl rfl ?_
       refine pq_ 8 21 (bL 23 511) HT_.out rfl rfl ?_
       refine pq_ 9 22 (bL 23 1023) HT_.out rfl rfl ?_
       have H := HZ36.out
       clear HZ36
       by_cases c7 : x3_1 > 0
       ·rw [if_pos c7] at H
        have c7b0 : decide (0 < x3_1) = true := decide_eq_true c7
        (first | rw [c7b0] | (simp only [i64_w, i32_w]; first | rw [c7b0]) | skip)
        clear c7
        obtain ⟨ji8, hji8⟩ : ∃ j_ : Int, (wrap64 (x3_1 - 1)) = j_ := ⟨_, rfl⟩
        replace H : (if 0 ≤ (ji8) then (if (ji8) < (l0.length : Int) then ((spec_Before.f ((rd_T61 l0 (ji8)).f0) ((rd_T61 l0 (ji8)).f1) ((rd_T61 l0 (ji8)).f2) ((rd_T61 l0 (ji8)).f3) ((rd_T61 l0 (ji8)).f4) ((rd_T61 l0 (ji8)).f5) ((rd_T61 l0 (ji8)).f6) ((rd_T61 l0 (ji8)).f7) ((rd_T61 l0 x3_1).f0) ((rd_T61 l0 x3_1).f1) ((rd_T61 l0 x3_1).f2) ((rd_T61 l0 x3_1).f3) ((rd_T61 l0 x3_1).f4) ((rd_T61 l0 x3_1).f5) ((rd_T61 l0 x3_1).f6) ((rd_T61 l0 x3_1).f7)).bind fun t264 => (if t264 = true then (spec_StoreOk.l0 k1 l0 (wrap64 (x3_1 + 1))) else (some false))) else (none)) else (none)) = some r := by first | (rw [hji8] at H; exact H) | (simp only [hji8] at H ⊢; exact H)
        (try rw [hji8] at A5)
        have hji8w : (IntKind.i64.wrap (x3_1 - 1)) = ji8 := (i64_w _).trans hji8
        by_cases c9 : 0 ≤ (ji8)
        ·rw [if_pos c9] at H
         have c9b0 : decide (0 ≤ (ji8)) = true := decide_eq_true c9
         clear c9
         by_cases c10 : (ji8) < (l0.length : Int)
         ·rw [if_pos c10] at H
          have c10b0 : decide ((ji8) < (l0.length : Int)) = true := decide_eq_true c10
          clear c10
          replace H := Option.bind_eq_some_iff.mp H
          obtain ⟨t264, A110, H⟩ := H
          replace H : (if t264 = true then (spec_StoreOk.l0 k1 l0 (wrap64 (x3_1 + 1))) else (some false)) = some r := H
          have A11 := Aside0.mk A110
          clear A110
          have HZ37 := Aside0.mk H
          clear H
          have p263 : 0 ≤ ((ji8) : Int) := of_decide_eq_true as_q
          have q263 : (ji8) < (l0.length : Int) := of_decide_eq_true as_q
          obtain ⟨ad263, A263_5, c263_5, e263, hx263_0, hx263_1, hx263_2, hx263_3, hx263_4, hx263_5, hx263_6, hx263_7, hl263_5, hi263_5⟩ := at_T61 HR0.out (ji8) p263 q263
          have hw263_7 := hx263_7
          have hw263_6 := hx263_6
          have hw263_5 := hx263_5
          have hw263_4 := hx263_4
          have hw263_3 := hx263_3
          have hw263_2 := hx263_2
          have hw263_1 := hx263_1
          have hw263_0 := hx263_0
          obtain rfl : ad261 = ad263 := (by injection e263)
          replace hx263_0 := (HB.out.cell (World.block_lt_of_cell? w _ hx263_0)).trans hx263_0
          replace hx263_1 := (HB.out.cell (World.block_lt_of_cell? w _ hx263_1)).trans hx263_1
          replace hx263_2 := (HB.out.cell (World.block_lt_of_cell? w _ hx263_2)).trans hx263_2
          replace hx263_3 := (HB.out.cell (World.block_lt_of_cell? w _ hx263_3)).trans hx263_3
          replace hx263_4 := (HB.out.cell (World.block_lt_of_cell? w _ hx263_4)).trans hx263_4
          replace hx263_5 := (HB.out.cell (World.block_lt_of_cell? w _ hx263_5)).trans hx263_5
          replace hx263_6 := (HB.out.cell (World.block_lt_of_cell? w _ hx263_6)).trans hx263_6
          replace hx263_7 := (HB.out.cell (World.block_lt_of_cell? w _ hx263_7)).trans hx263_7
          have HR263_5 := Aside0.mk hi263_5
          have HC263_5 := Aside0.mk hl263_5
          clear hi263_5 hl263_5
          replace p263 := eq_true p263
          replace q263 := eq_true q263
          refine last_weaken (fun w' => w'.cell? (ad261.add ((x3_1).toNat * 8)) = some (.int .i64 ((rd_T61 l0 x3_1).f0)) ∧ w'.cell? ⟨(ad261.add ((x3_1).toNat * 8)).block, (ad261.add ((x3_1).toNat * 8)).off + 1, none⟩ = some (.int .i64 ((rd_T61 l0 x3_1).f1)) ∧ w'.cell? ⟨(ad261.add ((x3_1).toNat * 8)).block, (ad261.add ((x3_1).toNat * 8)).off + 2, none⟩ = some (.int .i64 ((rd_T61 l0 x3_1).f2)) ∧ w'.cell? ⟨(ad261.add ((x3_1).toNat * 8)).block, (ad261.add ((x3_1).toNat * 8)).off + 3, none⟩ = some (.int .i64 ((rd_T61 l0 x3_1).f3)) ∧ w'.cell? ⟨(ad261.add ((x3_1).toNat * 8)).block, (ad261.add ((x3_1).toNat * 8)).off + 4, none⟩ = some (.int .i64 ((rd_T61 l0 x3_1).f4)) ∧ w'.cell? ⟨(ad261.add ((x3_1).toNat * 8)).block, (ad261.add ((x3_1).toNat * 8)).off + 5, none⟩ = some (.slice A261_5 ((rd_T61 l0 x3_1).f5).length c261_5) ∧ w'.cell? ⟨(ad261.add ((x3_1).toNat * 8)).block, (ad261.add ((x3_1).toNat * 8)).off + 6, none⟩ = some (.int .i64 ((rd_T61 l0 x3_1).f6)) ∧ w'.cell? ⟨(ad261.add ((x3_1).toNat * 8)).block, (ad261.add ((x3_1).toNat * 8)).off + 7, none⟩ = some (.bool ((rd_T61 l0 x3_1).f7)) ∧ w'.cell? (ad261.add (((ji8)).toNat * 8)) = some (.int .i64 ((rd_T61 l0 (ji8)).f0)) ∧ w'.cell? ⟨(ad261.add (((ji8)).toNat * 8)).block, (ad261.add (((ji8)).toNat * 8)).off + 1, none⟩ = some (.int .i64 ((rd_T61 l0 (ji8)).f1)) ∧ w'.cell? ⟨(ad261.add (((ji8)).toNat * 8)).block, (ad261.add (((ji8)).toNat * 8)).off + 2, none⟩ = some (.int .i64 ((rd_T61 l0 (ji8)).f2)) ∧ w'.cell? ⟨(ad261.add (((ji8)).toNat * 8)).block, (ad261.add (((ji8)).toNat * 8)).off + 3, none⟩ = some (.int .i64 ((rd_T61 l0 (ji8)).f3)) ∧ w'.cell? ⟨(ad261.add (((ji8)).toNat * 8)).block, (ad261.add (((ji8)).toNat * 8)).off + 4, none⟩ = some (.int .i64 ((rd_T61 l0 (ji8)).f4)) ∧ w'.cell? ⟨(ad261.add (((ji8)).toNat * 8)).block, (ad261.add (((ji8)).toNat * 8)).off + 5, none⟩ = some (.slice A263_5 ((rd_T61 l0 (ji8)).f5).length c263_5) ∧ w'.cell? ⟨(ad261.add (((ji8)).toNat * 8)).block, (ad261.add (((ji8)).toNat * 8)).off + 6, none⟩ = some (.int .i64 ((rd_T61 l0 (ji8)).f6)) ∧ w'.cell? ⟨(ad261.add (((ji8)).toNat * 8)).block, (ad261.add (((ji8)).toNat * 8)).off + 7, none⟩ = some (.bool ((rd_T61 l0 (ji8)).f7))) (fun w' h_ => ⟨h_.1, h_.2.1, h_.2.2.1, h_.2.2.2.1, h_.2.2.2.2.1, h_.2.2.2.2.2.1, h_.2.2.2.2.2.2.1, h_.2.2.2.2.2.2.2.1⟩) ⟨hHeld.1, hHeld.2.1, hHeld.2.2.1, hHeld.2.2.2.1, hHeld.2.2.2.2.1, hHeld.2.2.2.2.2.1, hHeld.2.2.2.2.2.2.1, hHeld.2.2.2.2.2.2.2, (by first | assumption | exact ((HB.out.cell (World.block_lt_of_cell? w _ hw263_0)).trans hw263_0)), (by first | assumption | exact ((HB.out.cell (World.block_lt_of_cell? w _ hw263_1)).trans hw263_1)), (by first | assumption | exact ((HB.out.cell (World.block_lt_of_cell? w _ hw263_2)).trans hw263_2)), (by first | assumption | exact ((HB.out.cell (World.block_lt_of_cell? w _ hw263_3)).trans hw263_3)), (by first | assumption | exact ((HB.out.cell (World.block_lt_of_cell? w _ hw263_4)).trans hw263_4)), (by first | assumption | exact ((HB.out.cell (World.block_lt_of_cell? w _ hw263_5)).trans hw263_5)), (by first | assumption | exact ((HB.out.cell (World.block_lt_of_cell? w _ hw263_6)).trans hw263_6)), (by first | assumption | exact ((HB.out.cell (World.block_lt_of_cell? w _ hw263_7)).trans hw263_7))⟩ (fun hHeld => ?_)
          refine pq_ 10 23 (bL 23 2047) HT_.out rfl rfl ?_
          refine pq_ 11 24 (bL 23 4095) HT_.out rfl rfl ?_
          refine pq_ 12 25 (bL 23 8191) HT_.out rfl rfl ?_
          refine pq_ 13 26 (bL 23 16383) HT_.out rfl rfl ?_
          refine pq_ 15 28 (bL 23 49151) HT_.out rfl rfl ?_
          refine pq_ 16 29 (bL 23 114687) HT_.out rfl rfl ?_
          refine pq_ 17 30 (bL 23 245759) HT_.out rfl rfl ?_
          refine take_ (i := 14) (N := some 27) (v := ?_) (a' := ?_) (bL 23 262143) rfl rfl (take_ofW HT_.out HW_.out (by kernel_rfl)) (fun _ _ _ h => h) (Or.inl ⟨by rfl, ?_⟩) hHeld ?_ ?_; rotate_left; (rintro w' ⟨s0, s1, s2, s3, s4, s5, s6, s7, s8, s9, s10, s11, s12, s13, s14, s15⟩; go_simp; with_reducible rfl); rotate_left; (exact put_q)
          refine take_ (i := 18) (N := some 31) (v := ?_) (a' := ?_) (bL 23 524287) rfl rfl (take_ofW HT_.out HW_.out (by kernel_rfl)) (fun _ _ _ h => h) (Or.inl ⟨by rfl, ?_⟩) hHeld ?_ ?_; rotate_left; (rintro w' ⟨s0, s1, s2, s3, s4, s5, s6, s7, s8, s9, s10, s11, s12, s13, s14, s15⟩; go_simp; with_reducible rfl); rotate_left; (exact put_q)
          refine one_ (i := 19) (N := some 32) (bL 23 1048575) rfl rfl (one_of HT_.out (by kernel_rfl)) (by decide) (fun K hK => ?_)
          refine goes_ Try.func72 (by kernel_rfl) rfl #[.agg #[.int .i64 ((rd_T61 l0 (ji8)).f0), .int .i64 ((rd_T61 l0 (ji8)).f1), .int .i64 ((rd_T61 l0 (ji8)).f2), .int .i64 ((rd_T61 l0 (ji8)).f3), .int .i64 ((rd_T61 l0 (ji8)).f4), .slice A263_5 ((rd_T61 l0 (ji8)).f5).length c263_5, .int .i64 ((rd_T61 l0 (ji8)).f6), .bool ((rd_T61 l0 (ji8)).f7)], .agg #[.int .i64 ((rd_T61 l0 x3_1).f0), .int .i64 ((rd_T61 l0 x3_1).f1), .int .i64 ((rd_T61 l0 x3_1).f2), .int .i64 ((rd_T61 l0 x3_1).f3), .int .i64 ((rd_T61 l0 x3_1).f4), .slice A261_5 ((rd_T61 l0 x3_1).f5).length c261_5, .int .i64 ((rd_T61 l0 x3_1).f6), .bool ((rd_T61 l0 x3_1).f7)]] (by rfl) rfl rfl (by (try simp only [List.map_toArray, List.map_cons, List.map_nil]); first | done | (simp only [hji8]; rfl) | rfl | (simp only [List.length_drop, List.length_take]; rfl)) ?_
          with_reducible refine (spec_Before.calls ((rd_T61 l0 (ji8)).f0) ((rd_T61 l0 (ji8)).f1) ((rd_T61 l0 (ji8)).f2) ((rd_T61 l0 (ji8)).f3) ((rd_T61 l0 (ji8)).f4) _ _ ((rd_T61 l0 (ji8)).f5) ((rd_T61 l0 (ji8)).f6) ((rd_T61 l0 (ji8)).f7) ((rd_T61 l0 x3_1).f0) ((rd_T61 l0 x3_1).f1) ((rd_T61 l0 x3_1).f2) ((rd_T61 l0 x3_1).f3) ((rd_T61 l0 x3_1).f4) _ _ ((rd_T61 l0 x3_1).f5) ((rd_T61 l0 x3_1).f6) ((rd_T61 l0 x3_1).f7) t264 _ ?side1 ?side2 ?side3 ?side4 A11.out).mono ?_
          (case side1 => exact cs_q (Kd.C_below HR263_5.out HB.out))
          (case side2 => exact HC263_5.out)
          (case side3 => exact cs_q (Kd.C_below HR261_5.out HB.out))
          (case side4 => exact HC261_5.out)
          rintro e w15 ⟨rfl, hb⟩
          refine ⟨_, rfl, ?_⟩
          replace HB := Aside0.mk (below_step (bw_q HB) hb)
          (try clear hb)
          (try clear hb2)
          (try clear hk)
          (try clear hi)
          refine hK.out _ _ ⟨((HB.out.cell (World.block_lt_of_cell? w _ hw261_0)).trans hw261_0), ((HB.out.cell (World.block_lt_of_cell? w _ hw261_1)).trans hw261_1), ((HB.out.cell (World.block_lt_of_cell? w _ hw261_2)).trans hw261_2), ((HB.out.cell (World.block_lt_of_cell? w _ hw261_3)).trans hw261_3), ((HB.out.cell (World.block_lt_of_cell? w _ hw261_4)).trans hw261_4), ((HB.out.cell (World.block_lt_of_cell? w _ hw261_5)).trans hw261_5), ((HB.out.cell (World.block_lt_of_cell? w _ hw261_6)).trans hw261_6), ((HB.out.cell (World.block_lt_of_cell? w _ hw261_7)).trans hw261_7), ((HB.out.cell (World.block_lt_of_cell? w _ hw263_0)).trans hw263_0), ((HB.out.cell (World.block_lt_of_cell? w _ hw263_1)).trans hw263_1), ((HB.out.cell (World.block_lt_of_cell? w _ hw263_2)).trans hw263_2), ((HB.out.cell (World.block_lt_of_cell? w _ hw263_3)).trans hw263_3), ((HB.out.cell (World.block_lt_of_cell? w _ hw263_4)).trans hw263_4), ((HB.out.cell (World.block_lt_of_cell? w _ hw263_5)).trans hw263_5), ((HB.out.cell (World.block_lt_of_cell? w _ hw263_6)).trans hw263_6), ((HB.out.cell (World.block_lt_of_cell? w _ hw263_7)).trans hw263_7)⟩ (fun hHeld => ?_)
          clear hK K
          refine norm_ (a' := ?_) ?_ ?_; rotate_left; (show Act.put _ (some 32) _ = _; simp only [Act.put, List.setIfInBounds_toArray, List.set_cons_zero, List.set_cons_succ, i64_w, i32_w]; rfl)
          refine pq_ 20 33 (bL 23 2097151) HT_.out rfl rfl ?_
          refine pq_ 21 34 (bL 23 4194303) HT_.out rfl rfl ?_
          refine pq_ 22 35 (bL 23 8388607) HT_.out rfl rfl ?_
          have H := HZ37.out
          clear HZ37
          by_cases c12 : t264 = true
          ·subst c12
           have H1 : (spec_StoreOk.l0 k1 l0 (wrap64 (x3_1 + 1))) = some r := by rw [if_pos rfl] at H; exact H
           clear H
           have H := H1
           clear H1
           have H' := Aside0.mk H
           clear H
           refine done_ (done_of HT_.out (by kernel_rfl)) ?_
           try go_wp2
           go_roundg k1
           case measure => have := HK1.out; omega
           case rel => exact ⟨(wrap64 (x3_1 + 1)), (by first | rfl | (simp; done) | (simp [*]; done)), H', ⟨by have := HK1.out; omega⟩, ⟨bw_q HB⟩⟩
          ·replace c12 := Bool.eq_false_iff.mpr c12
           subst c12
           have H1 : (some false) = some r := by rw [if_neg (show ¬ (false = true) by decide)] at H; exact H
           clear H
           have H := H1
           clear H1
           obtain rfl := Option.some.inj H
           refine done_ (done_of HT_.out (by kernel_rfl)) ?_
           try go_wp2
           go_ret
           exact ⟨by first | rfl | (simp [errW_none, errW_some] <;> rfl) | (simp only [← hji8]; first | rfl | (simp [errW_none, errW_some] <;> rfl)) | (simp [*, errW_none, errW_some] <;> rfl), bw_q HB⟩
         ·rw [if_neg c10] at H
          exact absurd H (by simp)
        ·rw [if_neg c9] at H
         exact absurd H (by simp)
       ·rw [if_neg c7] at H
        have c7b0 : decide (0 < x3_1) = false := decide_eq_false c7
        (first | rw [c7b0] | (simp only [i64_w, i32_w]; first | rw [c7b0]) | skip)
        clear c7
        have H' := Aside0.mk H
        clear H
        refine pu_ 10 23 (bL 23 2047) HT_.out rfl rfl ?_
        refine pu_ 11 24 (bL 23 4095) HT_.out rfl rfl ?_
        refine pu_ 12 25 (bL 23 8191) HT_.out rfl rfl ?_
        refine pu_ 13 26 (bL 23 16383) HT_.out rfl rfl ?_
        refine pu_ 14 27 (bL 23 32767) HT_.out rfl rfl ?_
        refine pu_ 15 28 (bL 23 65535) HT_.out rfl rfl ?_
        refine pu_ 16 29 (bL 23 131071) HT_.out rfl rfl ?_
        refine pu_ 17 30 (bL 23 262143) HT_.out rfl rfl ?_
        refine pu_ 18 31 (bL 23 524287) HT_.out rfl rfl ?_
        refine pu_ 19 32 (bL 23 1048575) HT_.out rfl rfl ?_
        refine pu_ 20 33 (bL 23 2097151) HT_.out rfl rfl ?_
        refine pq_ 21 34 (bL 23 4194303) HT_.out rfl rfl ?_
        refine pq_ 22 35 (bL 23 8388607) HT_.out rfl rfl ?_
        refine done_ (done_of HT_.out (by kernel_rfl)) ?_
        try go_wp2
        go_roundg k1
        case measure => have := HK1.out; omega
        case rel => exact ⟨(wrap64 (x3_1 + 1)), (by first | rfl | (simp; done) | (simp [*]; done)), H', ⟨by have := HK1.out; omega⟩, ⟨bw_q HB⟩⟩
      ·replace c6 := Bool.eq_false_iff.mpr c6
       subst c6
       have H1 : (some false) = some r := by rw [if_neg (show ¬ (false = true) by decide)] at H; exact H
       clear H
       have H := H1
       clear H1
       obtain rfl := Option.some.inj H
       refine pu_ 7 20 (bL 23 255) HT_.out rfl rfl ?_
       refine pu_ 8 21 (bL 23 511) HT_.out rfl rfl ?_
       refine pu_ 9 22 (bL 23 1023) HT_.out rfl rfl ?_
       refine pu_ 10 23 (bL 23 2047) HT_.out rfl rfl ?_
       refine pu_ 11 24 (bL 23 4095) HT_.out rfl rfl ?_
       refine pu_ 12 25 (bL 23 8191) HT_.out rfl rfl ?_
       refine pu_ 13 26 (bL 23 16383) HT_.out rfl rfl ?_
       refine pu_ 14 27 (bL 23 32767) HT_.out rfl rfl ?_
       refine pu_ 15 28 (bL 23 65535) HT_.out rfl rfl ?_
       refine pu_ 16 29 (bL 23 131071) HT_.out rfl rfl ?_
       refine pu_ 17 30 (bL 23 262143) HT_.out rfl rfl ?_
       refine pu_ 18 31 (bL 23 524287) HT_.out rfl rfl ?_
       refine pu_ 19 32 (bL 23 1048575) HT_.out rfl rfl ?_
       refine pu_ 20 33 (bL 23 2097151) HT_.out rfl rfl ?_
       refine pu_ 21 34 (bL 23 4194303) HT_.out rfl rfl ?_
       refine pq_ 22 35 (bL 23 8388607) HT_.out rfl rfl ?_
       refine done_ (done_of HT_.out (by kernel_rfl)) ?_
       try go_wp2
       go_ret
       exact ⟨er_q, bw_q HB⟩
     ·rw [if_neg c4] at H
      exact absurd H (by simp)
    ·rw [if_neg c3] at H
     have c3b0 : decide (x3_1 < (l0.length : Int)) = false := decide_eq_false c3
     clear c3
     obtain rfl := Option.some.inj H
     go_wp2
     go_ret
     exact ⟨er_q, bw_q HB⟩

end Go.Proofs.Ythjmdiggglkeaaa.Q

/- A Go function as a Lean function, and its contract: for every input the Go code comes to what the Lean function tells. -/

namespace Go.Proofs.Ythjmdiggglkeaaa.Q
open Go.RowKit Go.Proofs.YthjmdiggglkeaaaW.PrintWords Go.Proofs.YthjmdiggglkeaaaW.PrintLast Go.Proofs.YthjmdiggglkeaaaW.PrintMore
attribute [local go_sem] max2_int min2_int max_two min_two max_three min_three max_four min_four   -- for this text's walks alone
set_option linter.unusedVariables false
set_option linter.unusedSimpArgs false

/-! ### spec_l04Copy: function 94 -/
def spec_l04Copy.f (a0_0 : Int) (a0_1 : Int) (a0_2 : Int) (a0_3 : Int) (a0_4 : Int) (l0_5 : List (S127)) (a0_6 : Int) (a0_7 : Bool) : Option (Int × Int × Int × Int × Int × (List (S127)) × Int × Bool) := (some (([] : List (S127)) : List (S127))).bind fun y433 => (if y433.length + l0_5.length < 8796093022208 then (some (a0_0, a0_1, a0_2, a0_3, a0_4, (y433 ++ l0_5), a0_6, a0_7)) else (none))
set_option maxHeartbeats 8000000 in
set_option maxRecDepth 100000 in
theorem spec_l04Copy.calls (a0_0 : Int) (a0_1 : Int) (a0_2 : Int) (a0_3 : Int) (a0_4 : Int) (A0_5 : Option Addr) (c0_5 : Nat) (l0_5 : List (S127)) (a0_6 : Int) (a0_7 : Bool) (r1 : Int) (r2 : Int) (r3 : Int) (r4 : Int) (r5 : Int) (r6 : List (S127)) (r7 : Int) (r8 : Bool) (w : World) (hr0_5 : Kd.C k127 w A0_5 l0_5.length l0_5) (hc0_5 : l0_5.length ≤ c0_5) (h : spec_l04Copy.f a0_0 a0_1 a0_2 a0_3 a0_4 l0_5 a0_6 a0_7 = some (r1, r2, r3, r4, r5, r6, r7, r8)) :
  Calls Try.prog 94 #[.agg #[.int .i64 a0_0, .int .i64 a0_1, .int .i64 a0_2, .int .i64 a0_3, .int .i64 a0_4, .slice A0_5 l0_5.length c0_5, .int .i64 a0_6, .bool a0_7]] w fun e w' => ∃ v5_ : Value, e = .returned (.agg #[.int .i64 r1, .int .i64 r2, .int .i64 r3, .int .i64 r4, .int .i64 r5, v5_, .int .i64 r7, .bool r8]) ∧ Kd.R k127 127 w' w.heap.size (fun _ => True) v5_ r6 ∧ Below w.heap.size w w' := by
 have hu61 := Try.underlying61
 have HR0_5 := Aside0.mk hr0_5
 have HC0_5 := Aside0.mk hc0_5
 clear hr0_5 hc0_5
 have HB := Aside0.mk (Below.refl w.heap.size w)
 have H : ((some (([] : List (S127)) : List (S127))).bind fun y433 => (if y433.length + l0_5.length < 8796093022208 then (some (a0_0, a0_1, a0_2, a0_3, a0_4, (y433 ++ l0_5), a0_6, a0_7)) else (none))) = some (r1, r2, r3, r4, r5, r6, r7, r8) := h
 clear h
 obtain ⟨y433, hy433⟩ : ∃ y_ : List (S127), y_ = (([] : List (S127))) := ⟨_, rfl⟩
 replace H : (if y433.length + l0_5.length < 8796093022208 then (some (a0_0, a0_1, a0_2, a0_3, a0_4, (y433 ++ l0_5), a0_6, a0_7)) else (none)) = some (r1, r2, r3, r4, r5, r6, r7, r8) := by first | (rw [hy433]; with_reducible exact H) | (have H2_ := (Option.bind_some _ _).symm.trans H; rw [hy433]; with_reducible exact H2_) | (have H2_ := (Option.bind_some _ _).symm.trans H; with_reducible exact H2_) | with_reducible exact H | (rw [hy433]; exact H) | exact H
 have Ny433 := Aside0.mk hy433
 clear hy433
 by_cases c2 : y433.length + l0_5.length < 8796093022208
 ·rw [if_pos c2] at H
  have LMc2 := Aside0.mk c2
  clear c2
  obtain ⟨y436, hy436⟩ : ∃ y_ : List (S127), y_ = (y433 ++ l0_5) := ⟨_, rfl⟩
  replace H : (some (a0_0, a0_1, a0_2, a0_3, a0_4, y436, a0_6, a0_7)) = some (r1, r2, r3, r4, r5, r6, r7, r8) := by first | (rw [hy436]; with_reducible exact H) | (have H2_ := (Option.bind_some _ _).symm.trans H; rw [hy436]; with_reducible exact H2_) | (have H2_ := (Option.bind_some _ _).symm.trans H; with_reducible exact H2_) | with_reducible exact H | (rw [hy436]; exact H) | exact H
  have Ny436 := Aside0.mk hy436
  clear hy436
  simp only [Option.some.injEq, Prod.mk.injEq] at H
  obtain ⟨rfl, rfl, rfl, rfl, rfl, rfl, rfl, rfl⟩ := H
  go_enter Try.func94, Try.ntmps94
  go_wp2_with (first | ((with_reducible refine gate_dst (N := 1) rfl ?_); refine box_q 1 #[.int .i64 a0_0, .int .i64 a0_1, .int .i64 a0_2, .int .i64 a0_3, .int .i64 a0_4, .slice A0_5 l0_5.length c0_5, .int .i64 a0_6, .bool a0_7] 61 ?_; intro gb431 hg w3 hbox hb; have BK431 := Aside0.mk (hbox); have GW431 := Aside0.mk ((by rw [hg]; exact (below_size (bw_q HB)) : w.heap.size ≤ gb431)); have GE431 := Aside0.mk ((by rw [hg]; exact (below_size (bw_q HB)) : w.heap.size ≤ gb431)); replace HB := Aside0.mk (below_step (bw_q HB) hb); clear hb hbox hg) | ((with_reducible refine gate_dst (N := 2) rfl ?_); refine box_q 2 #[.int .i64 0, .int .i64 0, .int .i64 0, .int .i64 0, .int .i64 0, .slice none 0 0, .int .i64 0, .bool false] 61 ?_; intro gb432 hg w4 hbox hb; have BK432 := Aside0.mk (hbox); have GW432 := Aside0.mk ((by rw [hg]; exact (below_size (bw_q HB)) : w.heap.size ≤ gb432)); have GE432 := Aside0.mk ((by rw [hg]; exact (below_size (bw_q HB)) : w.heap.size ≤ gb432)); replace HB := Aside0.mk (below_step (bw_q HB) hb); have NB431_432 := Aside0.mk ((by rw [hg]; exact Nat.ne_of_lt (blk_lt (g := gb431) (o := .cells #[.int .i64 a0_0, .int .i64 a0_1, .int .i64 a0_2, .int .i64 a0_3, .int .i64 a0_4, .slice A0_5 l0_5.length c0_5, .int .i64 a0_6, .bool a0_7] 61 (0, 0)) (bk_q BK431)) : gb431 ≠ gb432)); have NB432_431 := Aside0.mk ((by rw [hg]; exact Nat.ne_of_gt (blk_lt (g := gb431) (o := .cells #[.int .i64 a0_0, .int .i64 a0_1, .int .i64 a0_2, .int .i64 a0_3, .int .i64 a0_4, .slice A0_5 l0_5.length c0_5, .int .i64 a0_6, .bool a0_7] 61 (0, 0)) (bk_q BK431)) : gb432 ≠ gb431)); replace BK431 := Aside0.mk (blk_below (g := gb431) (bk_q BK431) hb); clear hb hbox hg) | ((with_reducible refine gate_dst (N := 3) rfl ?_); refine Kd.R_lit k127 _ 127 ?hg (N := 3) ?hd (xs := ([] : List (S127))) (inner := []) (ok := fun _ => True) (okp := fun _ => True) ?hr ?hp (fun _ hk => hk) trivial (Below.refl _ _) (Nat.le_refl _) (by simp) ?_; (case hd => rfl); (case hg => rfl); (case hr => first | (go_simp; done) | (go_simp; rfl)); (case hp => exact (Reps.none _ _)); intro v434 w5 ho6 hb hg_ hnew_; clear hg_ hnew_; (first | rw [← Ny433.out] at ho6 | (simp only [Int.reduceToNat] at ho6; rw [← Ny433.out] at ho6)); have HO435 := Aside0.mk (Kd.R_lower ho6 (below_size (bw_q HB))); replace BK431 := Aside0.mk (blk_below (g := gb431) (bk_q BK431) hb); replace BK432 := Aside0.mk (blk_below (g := gb432) (bk_q BK432) hb); replace HB := Aside0.mk (below_step (bw_q HB) hb); clear hb ho6; have hnb7 := NB431_432.out; have hnc7 := NB432_431.out; have hcz8_0 : w5.cell? ⟨gb431, 0, none⟩ = some (.int .i64 a0_0) := (blk_cell BK431.out 0).trans rfl; have hcz8_1 : w5.cell? ⟨gb431, 1, none⟩ = some (.int .i64 a0_1) := (blk_cell BK431.out 1).trans rfl; have hcz8_2 : w5.cell? ⟨gb431, 2, none⟩ = some (.int .i64 a0_2) := (blk_cell BK431.out 2).trans rfl; have hcz8_3 : w5.cell? ⟨gb431, 3, none⟩ = some (.int .i64 a0_3) := (blk_cell BK431.out 3).trans rfl; have hcz8_4 : w5.cell? ⟨gb431, 4, none⟩ = some (.int .i64 a0_4) := (blk_cell BK431.out 4).trans rfl; have hcz8_5 : w5.cell? ⟨gb431, 5, none⟩ = some (.slice A0_5 l0_5.length c0_5) := (blk_cell BK431.out 5).trans rfl; have hcz8_6 : w5.cell? ⟨gb431, 6, none⟩ = some (.int .i64 a0_6) := (blk_cell BK431.out 6).trans rfl; have hcz8_7 : w5.cell? ⟨gb431, 7, none⟩ = some (.bool a0_7) := (blk_cell BK431.out 7).trans rfl; have hfz8_0 := blk_frozen BK431.out 0; have hfz8_1 := blk_frozen BK431.out 1; have hfz8_2 := blk_frozen BK431.out 2; have hfz8_3 := blk_frozen BK431.out 3; have hfz8_4 := blk_frozen BK431.out 4; have hfz8_5 := blk_frozen BK431.out 5; have hfz8_6 := blk_frozen BK431.out 6; have hfz8_7 := blk_frozen BK431.out 7) | ((with_reducible refine gate_builtin (b := .append) (xs := #[.tmp 3, .tmp 5]) rfl ?_); at_builtin; refine Kd.R_append_rows k127 (w0 := w) w.heap.size rfl (.tmp 3) (.tmp 5) 59 127 (.agg #[(.int .i64 0), (.int .i64 0)]) 16 rfl Try.underlying59 info127 rfl (by decide) (by omega) v434 y433 l0_5 _ _ _ (fun _ => True) (fun _ => False) rfl rfl ?aO ?aR (fun _ _ h => h) (fun _ h => h.elim) ?aF ?aB ?aS ?aL ?_; (case aR => exact cs_q (Kd.C_below HR0_5.out HB.out)); (case aB => exact (bw_q HB)); (case aF => exact (fun _ _ => trivial)); (case aO => exact (kR_q HO435)); (case aS => exact (below_size (bw_q HB))); (case aL => have := LMc2.out; omega); intro v437 w9 ho hb hg hat; rw [← Ny436.out] at ho; replace BK431 := Aside0.mk (blk_grown (g := gb431) (o := .cells #[.int .i64 a0_0, .int .i64 a0_1, .int .i64 a0_2, .int .i64 a0_3, .int .i64 a0_4, .slice A0_5 l0_5.length c0_5, .int .i64 a0_6, .bool a0_7] 61 (0, 0)) (bk_q BK431) hg (Kd.R_ne HO435.out BK431.out (by decide))); replace BK432 := Aside0.mk (blk_grown (g := gb432) (o := .cells #[.int .i64 0, .int .i64 0, .int .i64 0, .int .i64 0, .int .i64 0, .slice none 0 0, .int .i64 0, .bool false] 61 (0, 0)) (bk_q BK432) hg (Kd.R_ne HO435.out BK432.out (by decide))); replace HB := Aside0.mk (hb); have HO438 := Aside0.mk (ho); clear HO435; clear ho hb hg hat; obtain ⟨Ao10, co10, eo10⟩ := Kd.R_slice HO438.out; subst eo10; have hcz11_0 : w9.cell? ⟨gb431, 0, none⟩ = some (.int .i64 a0_0) := (blk_cell BK431.out 0).trans rfl; have hcz11_1 : w9.cell? ⟨gb431, 1, none⟩ = some (.int .i64 a0_1) := (blk_cell BK431.out 1).trans rfl; have hcz11_2 : w9.cell? ⟨gb431, 2, none⟩ = some (.int .i64 a0_2) := (blk_cell BK431.out 2).trans rfl; have hcz11_3 : w9.cell? ⟨gb431, 3, none⟩ = some (.int .i64 a0_3) := (blk_cell BK431.out 3).trans rfl; have hcz11_4 : w9.cell? ⟨gb431, 4, none⟩ = some (.int .i64 a0_4) := (blk_cell BK431.out 4).trans rfl; have hcz11_5 : w9.cell? ⟨gb431, 5, none⟩ = some (.slice A0_5 l0_5.length c0_5) := (blk_cell BK431.out 5).trans rfl; have hcz11_6 : w9.cell? ⟨gb431, 6, none⟩ = some (.int .i64 a0_6) := (blk_cell BK431.out 6).trans rfl; have hcz11_7 : w9.cell? ⟨gb431, 7, none⟩ = some (.bool a0_7) := (blk_cell BK431.out 7).trans rfl; have hfz11_0 := blk_frozen BK431.out 0; have hfz11_1 := blk_frozen BK431.out 1; have hfz11_2 := blk_frozen BK431.out 2; have hfz11_3 := blk_frozen BK431.out 3; have hfz11_4 := blk_frozen BK431.out 4; have hfz11_5 := blk_frozen BK431.out 5; have hfz11_6 := blk_frozen BK431.out 6; have hfz11_7 := blk_frozen BK431.out 7; have hcz12_0 : w9.cell? ⟨gb432, 0, none⟩ = some (.int .i64 0) := (blk_cell BK432.out 0).trans rfl; have hcz12_1 : w9.cell? ⟨gb432, 1, none⟩ = some (.int .i64 0) := (blk_cell BK432.out 1).trans rfl; have hcz12_2 : w9.cell? ⟨gb432, 2, none⟩ = some (.int .i64 0) := (blk_cell BK432.out 2).trans rfl; have hcz12_3 : w9.cell? ⟨gb432, 3, none⟩ = some (.int .i64 0) := (blk_cell BK432.out 3).trans rfl; have hcz12_4 : w9.cell? ⟨gb432, 4, none⟩ = some (.int .i64 0) := (blk_cell BK432.out 4).trans rfl; have hcz12_5 : w9.cell? ⟨gb432, 5, none⟩ = some (.slice none 0 0) := (blk_cell BK432.out 5).trans rfl; have hcz12_6 : w9.cell? ⟨gb432, 6, none⟩ = some (.int .i64 0) := (blk_cell BK432.out 6).trans rfl; have hcz12_7 : w9.cell? ⟨gb432, 7, none⟩ = some (.bool false) := (blk_cell BK432.out 7).trans rfl; have hfz12_0 := blk_frozen BK432.out 0; have hfz12_1 := blk_frozen BK432.out 1; have hfz12_2 := blk_frozen BK432.out 2; have hfz12_3 := blk_frozen BK432.out 3; have hfz12_4 := blk_frozen BK432.out 4; have hfz12_5 := blk_frozen BK432.out 5; have hfz12_6 := blk_frozen BK432.out 6; have hfz12_7 := blk_frozen BK432.out 7))
  refine bodyPost_ret (results_cell_row rfl _ _ gb432 61 #[.int .i64 a0_0, .int .i64 a0_1, .int .i64 a0_2, .int .i64 a0_3, .int .i64 a0_4, .slice Ao10 y436.length co10, .int .i64 a0_6, .bool a0_7] (0, 0) _ rfl (by refine bz_ ?_; refine blk_put (cs := #[.int .i64 a0_0, .int .i64 a0_1, .int .i64 a0_2, .int .i64 a0_3, .int .i64 a0_4, .slice Ao10 y436.length co10, .int .i64 a0_6, .bool false]) ?_ 7 _ rfl; refine bz_ ?_; refine blk_put (cs := #[.int .i64 a0_0, .int .i64 a0_1, .int .i64 a0_2, .int .i64 a0_3, .int .i64 a0_4, .slice Ao10 y436.length co10, .int .i64 0, .bool false]) ?_ 6 _ rfl; refine bz_ ?_; refine blk_put (cs := #[.int .i64 a0_0, .int .i64 a0_1, .int .i64 a0_2, .int .i64 a0_3, .int .i64 a0_4, .slice none 0 0, .int .i64 0, .bool false]) ?_ 5 _ rfl; refine bz_ ?_; refine blk_put (cs := #[.int .i64 a0_0, .int .i64 a0_1, .int .i64 a0_2, .int .i64 a0_3, .int .i64 0, .slice none 0 0, .int .i64 0, .bool false]) ?_ 4 _ rfl; refine bz_ ?_; refine blk_put (cs := #[.int .i64 a0_0, .int .i64 a0_1, .int .i64 a0_2, .int .i64 0, .int .i64 0, .slice none 0 0, .int .i64 0, .bool false]) ?_ 3 _ rfl; refine bz_ ?_; refine blk_put (cs := #[.int .i64 a0_0, .int .i64 a0_1, .int .i64 0, .int .i64 0, .int .i64 0, .slice none 0 0, .int .i64 0, .bool false]) ?_ 2 _ rfl; refine bz_ ?_; refine blk_put (cs := #[.int .i64 a0_0, .int .i64 0, .int .i64 0, .int .i64 0, .int .i64 0, .slice none 0 0, .int .i64 0, .bool false]) ?_ 1 _ rfl; refine bz_ ?_; refine blk_put (cs := #[.int .i64 0, .int .i64 0, .int .i64 0, .int .i64 0, .int .i64 0, .slice none 0 0, .int .i64 0, .bool false]) ?_ 0 _ rfl; refine bz_ ?_; refine blk_far ?_ NB432_431.out _; refine bz_ ?_; exact BK432.out) Try.underlying61 rfl (by kernel_rfl)) rfl ?_
  exact ⟨_, er_q, by (with_reducible repeat (first | apply Kd.R_alloc | apply Kd.R_drewN | apply Kd.R_drew)); exact Kd.R_mono (Kd.R_far (p := ⟨gb432, 7, none⟩) (Kd.R_far (p := ⟨gb432, 6, none⟩) (Kd.R_far (p := ⟨gb432, 5, none⟩) (Kd.R_far (p := ⟨gb432, 4, none⟩) (Kd.R_far (p := ⟨gb432, 3, none⟩) (Kd.R_far (p := ⟨gb432, 2, none⟩) (Kd.R_far (p := ⟨gb432, 1, none⟩) (Kd.R_far (p := ⟨gb432, 0, none⟩) (Kd.R_far (p := ⟨gb431, 5, none⟩) (Kd.R_types (Kd.R_types HO438.out BK431.out (by decide)) BK432.out (by decide)) (fun _ hk => hk.1.2) (.slice Ao10 y436.length co10)) (fun _ hk => hk.2) (.int .i64 a0_0)) (fun _ hk => hk.2) (.int .i64 a0_1)) (fun _ hk => hk.2) (.int .i64 a0_2)) (fun _ hk => hk.2) (.int .i64 a0_3)) (fun _ hk => hk.2) (.int .i64 a0_4)) (fun _ hk => hk.2) (.slice Ao10 y436.length co10)) (fun _ hk => hk.2) (.int .i64 a0_6)) (fun _ hk => hk.2) (.bool a0_7)) (fun _ hk => trivial), bw_q HB⟩
 ·rw [if_neg c2] at H
  exact absurd H (by simp)

end Go.Proofs.Ythjmdiggglkeaaa.Q

/- A Go function as a Lean function, and its contract: for every input the Go code comes to what the Lean function tells. -/


namespace Go.Proofs.Ythjmdiggglkeaaa.Q
open Go.RowKit Go.Proofs.YthjmdiggglkeaaaW.PrintWords Go.Proofs.YthjmdiggglkeaaaW.PrintLast Go.Proofs.YthjmdiggglkeaaaW.PrintMore
attribute [local go_sem] max2_int min2_int max_two min_two max_three min_three max_four min_four   -- for this text's walks alone
set_option linter.unusedVariables false
set_option linter.unusedSimpArgs false

/-! ### spec_l04CopyList: function 95 -/
def spec_l04CopyList.l0 : Nat → List (S61) → List (S61) → Int → Option ((List (S61)))
 | 0, _, _, _ => none
 | k + 1, x0, x3, x4 => if x4 < (x0.length : Int) then (if 0 ≤ x4 then ((spec_l04Copy.f ((rd_T61 x0 x4).f0) ((rd_T61 x0 x4).f1) ((rd_T61 x0 x4).f2) ((rd_T61 x0 x4).f3) ((rd_T61 x0 x4).f4) ((rd_T61 x0 x4).f5) ((rd_T61 x0 x4).f6) ((rd_T61 x0 x4).f7)).bind fun bt443 => (if x3.length < 1759218604441 then (spec_l04CopyList.l0 k x0 (x3 ++ [(⟨bt443.1, bt443.2.1, bt443.2.2.1, bt443.2.2.2.1, bt443.2.2.2.2.1, bt443.2.2.2.2.2.1, bt443.2.2.2.2.2.2.1, bt443.2.2.2.2.2.2.2⟩ : S61)]) (wrap64 (x4 + 1))) else (none))) else (none)) else (some x3)
def spec_l04CopyList.f (k : Nat) (l0 : List (S61)) : Option ((List (S61))) := spec_l04CopyList.l0 k l0 (([] : List (S61))) 0
theorem spec_l04CopyList.mono_l : ∀ k, (∀ y0 y1 y2, LeO (spec_l04CopyList.l0 k y0 y1 y2) (spec_l04CopyList.l0 (k + 1) y0 y1 y2))
 | 0 => fun _ _ _ r h => by simp [spec_l04CopyList.l0] at h
 | k + 1 => by
  have ih0 := spec_l04CopyList.mono_l k
  ·intro y0 y1 y2
   unfold spec_l04CopyList.l0
   repeat' first
   | (with_reducible exact ih0 _ _ _)
   | (with_reducible exact LeO.refl _)
   | (with_reducible exact LeO.none _)
   | (with_reducible refine LeO.ite ?_ ?_)
   | (with_reducible refine LeO.bind ?_ (fun _ => ?_))
   | exact ih0 _ _ _
   | exact LeO.none _
   | refine LeO.ite ?_ ?_
   | refine LeO.bind ?_ (fun _ => ?_)
theorem spec_l04CopyList.mono : ∀ a0 k, LeO (spec_l04CopyList.f k a0) (spec_l04CopyList.f (k + 1) a0) := by
 intro a0 k
 have ih0 := spec_l04CopyList.mono_l k
 unfold spec_l04CopyList.f
 repeat' first
   | (with_reducible exact ih0 _ _ _)
   | (with_reducible exact LeO.refl _)
   | (with_reducible exact LeO.none _)
   | (with_reducible refine LeO.ite ?_ ?_)
   | (with_reducible refine LeO.bind ?_ (fun _ => ?_))
   | exact ih0 _ _ _
   | exact LeO.none _
   | refine LeO.ite ?_ ?_
   | refine LeO.bind ?_ (fun _ => ?_)
set_option maxHeartbeats 8000000 in
set_option maxRecDepth 100000 in
theorem spec_l04CopyList.calls (k : Nat) (A0 : Option Addr) (c0 : Nat) (l0 : List (S61)) (r : List (S61)) (w : World) (hr0 : Kd.C k61 w A0 l0.length l0) (hc0 : l0.length ≤ c0) (h : spec_l04CopyList.f k l0 = some r) :
  Calls Try.prog 95 #[.slice A0 l0.length c0] w fun e w' => ∃ v0_ : Value, e = .returned (v0_) ∧ Kd.S k61 61 w' w.heap.size (fun _ => True) v0_ r ∧ Below w.heap.size w w' := by
 have hu61 := Try.underlying61
 have HR0 := Aside0.mk hr0
 have HC0 := Aside0.mk hc0
 clear hr0 hc0
 have HB := Aside0.mk (Below.refl w.heap.size w)
 have H : (spec_l04CopyList.l0 k l0 (([] : List (S61))) 0) = some r := h
 clear h
 obtain ⟨y439, hy439⟩ : ∃ y_ : List (S61), y_ = (([] : List (S61))) := ⟨_, rfl⟩
 replace H : (spec_l04CopyList.l0 k l0 y439 0) = some r := by first | (rw [hy439]; with_reducible exact H) | (have H2_ := (Option.bind_some _ _).symm.trans H; rw [hy439]; with_reducible exact H2_) | (have H2_ := (Option.bind_some _ _).symm.trans H; with_reducible exact H2_) | with_reducible exact H | (rw [hy439]; exact H) | exact H
 have Ny439 := Aside0.mk hy439
 clear hy439
 have H' := Aside0.mk H
 clear H
 go_enter Try.func95, Try.ntmps95
 go_wp2_with (first | ((with_reducible refine gate_dst (N := 5) rfl ?_); refine Kd.S_lit k61 _ 61 ?hg (N := 5) ?hd (xs := ([] : List (S61))) (inner := []) (ok := fun _ => True) (okp := fun _ => True) ?hr ?hp (fun _ hk => hk) trivial (Below.refl _ _) (Nat.le_refl _) (by simp) ?_; (case hd => rfl); (case hg => rfl); (case hr => first | (go_simp; done) | (go_simp; rfl)); (case hp => exact (Reps.none _ _)); intro v440 w2 ho3 hb hg_ hnew_; clear hg_ hnew_; (first | rw [← Ny439.out] at ho3 | (simp only [Int.reduceToNat] at ho3; rw [← Ny439.out] at ho3)); have HO441 := Aside0.mk (Kd.S_lower ho3 (below_size (bw_q HB))); replace HB := Aside0.mk (below_step (bw_q HB) hb); clear hb ho3))
 go_loopg [3, 4] k (fun kq v3 v4 w' => ∃ (x3_1 : List (S61)) (x4_1 : Int), v4 = .int .i64 x4_1 ∧ Aside0 (spec_l04CopyList.l0 kq l0 x3_1 x4_1 = some r) ∧ Aside0 (kq ≤ k) ∧ Aside0 (Kd.S k61 61 w' w.heap.size (fun _ => True) v3 x3_1) ∧ Aside0 (Below w.heap.size w w'))
 case atStart => exact ⟨(y439), (0), (by first | rfl | (simp; done) | (simp [*]; done)), H', ⟨Nat.le_refl _⟩, ⟨by (with_reducible repeat (first | apply Kd.S_alloc | apply Kd.S_drewN | apply Kd.S_drew)); exact HO441.out⟩, ⟨bw_q HB⟩⟩
 case round =>
  clear H'
  try clear p2
  obtain ⟨x3_1, x4_1, rfl, HA, HK1, HO_3, HB⟩ := hrel
  cases gk with
  | zero => exact absurd HA.out (by simp [spec_l04CopyList.l0])
  | succ k1 =>
   have H := HA.out
   clear HA
   simp only [spec_l04CopyList.l0] at H
   by_cases c4 : x4_1 < (l0.length : Int)
   ·rw [if_pos c4] at H
    have c4b0 : decide (x4_1 < (l0.length : Int)) = true := decide_eq_true c4
    clear c4
    by_cases c5 : 0 ≤ x4_1
    ·rw [if_pos c5] at H
     have c5b0 : decide (0 ≤ x4_1) = true := decide_eq_true c5
     clear c5
     replace H := Option.bind_eq_some_iff.mp H
     obtain ⟨⟨t443, t444, t445, t446, t447, t448, t451, t452⟩, A60, H⟩ := H
     replace H : (if x3_1.length < 1759218604441 then (spec_l04CopyList.l0 k1 l0 (x3_1 ++ [(⟨t443, t444, t445, t446, t447, t448, t451, t452⟩ : S61)]) (wrap64 (x4_1 + 1))) else (none)) = some r := H
     have A6 := Aside0.mk A60
     clear A60
     by_cases c7 : x3_1.length < 1759218604441
     ·rw [if_pos c7] at H
      have LMc7 := Aside0.mk c7
      clear c7
      obtain ⟨y453, hy453⟩ : ∃ y_ : List (S61), y_ = (x3_1 ++ [(⟨t443, t444, t445, t446, t447, t448, t451, t452⟩ : S61)]) := ⟨_, rfl⟩
      replace H : (spec_l04CopyList.l0 k1 l0 y453 (wrap64 (x4_1 + 1))) = some r := by first | (rw [hy453]; with_reducible exact H) | (have H2_ := (Option.bind_some _ _).symm.trans H; rw [hy453]; with_reducible exact H2_) | (have H2_ := (Option.bind_some _ _).symm.trans H; with_reducible exact H2_) | with_reducible exact H | (rw [hy453]; exact H) | exact H
      have Ny453 := Aside0.mk hy453
      clear hy453
      have H' := Aside0.mk H
      clear H
      have p442 : 0 ≤ (x4_1 : Int) := of_decide_eq_true as_q
      have q442 : x4_1 < (l0.length : Int) := of_decide_eq_true as_q
      obtain ⟨ad442, A442_5, c442_5, e442, hx442_0, hx442_1, hx442_2, hx442_3, hx442_4, hx442_5, hx442_6, hx442_7, hl442_5, hi442_5⟩ := at_T61 HR0.out x4_1 p442 q442
      cases e442
      replace hx442_0 := (HB.out.cell (World.block_lt_of_cell? w _ hx442_0)).trans hx442_0
      replace hx442_1 := (HB.out.cell (World.block_lt_of_cell? w _ hx442_1)).trans hx442_1
      replace hx442_2 := (HB.out.cell (World.block_lt_of_cell? w _ hx442_2)).trans hx442_2
      replace hx442_3 := (HB.out.cell (World.block_lt_of_cell? w _ hx442_3)).trans hx442_3
      replace hx442_4 := (HB.out.cell (World.block_lt_of_cell? w _ hx442_4)).trans hx442_4
      replace hx442_5 := (HB.out.cell (World.block_lt_of_cell? w _ hx442_5)).trans hx442_5
      replace hx442_6 := (HB.out.cell (World.block_lt_of_cell? w _ hx442_6)).trans hx442_6
      replace hx442_7 := (HB.out.cell (World.block_lt_of_cell? w _ hx442_7)).trans hx442_7
      have HR442_5 := Aside0.mk hi442_5
      have HC442_5 := Aside0.mk hl442_5
      clear hi442_5 hl442_5
      replace p442 := eq_true p442
      replace q442 := eq_true q442
      go_wp2_with (first | ((with_reducible refine gate_callee (f := 94) rfl ?_); refine goesL_ (some 17) rfl rfl Try.func94 (by kernel_rfl) rfl #[.agg #[.int .i64 ((rd_T61 l0 x4_1).f0), .int .i64 ((rd_T61 l0 x4_1).f1), .int .i64 ((rd_T61 l0 x4_1).f2), .int .i64 ((rd_T61 l0 x4_1).f3), .int .i64 ((rd_T61 l0 x4_1).f4), .slice A442_5 ((rd_T61 l0 x4_1).f5).length c442_5, .int .i64 ((rd_T61 l0 x4_1).f6), .bool ((rd_T61 l0 x4_1).f7)]] rfl mp_q ?_; (with_reducible refine (spec_l04Copy.calls ((rd_T61 l0 x4_1).f0) ((rd_T61 l0 x4_1).f1) ((rd_T61 l0 x4_1).f2) ((rd_T61 l0 x4_1).f3) ((rd_T61 l0 x4_1).f4) _ _ ((rd_T61 l0 x4_1).f5) ((rd_T61 l0 x4_1).f6) ((rd_T61 l0 x4_1).f7) t443 t444 t445 t446 t447 t448 t451 t452 _ ?side1 ?side2 A6.out).mono ?_); (case side1 => exact cs_q (Kd.C_below HR442_5.out HB.out)); (case side2 => exact HC442_5.out); rintro e w8 ⟨v449, rfl, ho0, hb⟩; refine ⟨_, rfl, ?_⟩; have hs_v449 : (v449 : Value).oneCell' = true := (by first | (obtain ⟨A_, c_, e_⟩ := Kd.R_slice ho0; simp [e_, Value.oneCell']) | (obtain ⟨A_, c_, e_⟩ := Kd.S_slice ho0; simp [e_, Value.oneCell']) | (obtain ⟨A_, c_, e_⟩ := Kd.N_slice ho0; simp [e_, Value.oneCell']) | (obtain ⟨A_, c_, e_⟩ := Kd.V_slice ho0; simp [e_, Value.oneCell'])); have hst_v449 := fun (w_ : World) (a_ : Addr) m_ => run_store Try.prog w_ a_ v449 m_ hs_v449; replace HO_3 := Aside0.mk (Kd.S_elder' (kS_q HO_3) (Kd.R_base ho0) hb); have HO450 := Aside0.mk (Kd.R_lower ho0 (below_size (bw_q HB))); replace HB := Aside0.mk (below_step (bw_q HB) hb); (try clear hb); (try clear hb2); (try clear hk); (try clear hi); (try clear ho0); obtain ⟨Ao10, co10, eo10⟩ := Kd.R_slice HO450.out; subst eo10) | ((with_reducible refine gate_builtin (b := .append) (xs := #[.tmp 12, .tmp 18]) rfl ?_); at_builtin; refine Kd.S_append k61 (w0 := w) w.heap.size rfl (.tmp 12) (.tmp 18) 41 61 (.agg #[(.int .i64 0), (.int .i64 0), (.int .i64 0), (.int .i64 0), (.int .i64 0), (.slice none 0 0), (.int .i64 0), (.bool false)]) 80 rfl Try.underlying41 info61 rfl (by decide) (by omega) u3 x3_1 (⟨t443, t444, t445, t446, t447, t448, t451, t452⟩ : S61) [.int .i64 t443, .int .i64 t444, .int .i64 t445, .int .i64 t446, .int .i64 t447, .slice Ao10 t448.length co10, .int .i64 t451, .bool t452] (fun _ => True) (fun k_ => some k_ = (.slice Ao10 t448.length co10 : Value).ownBlock) rfl rfl ?aP (fun k_ hk_ => ((Kd.R_mono (ok' := fun k_ => ((fun _ => True)) k_ ∧ some k_ ≠ (u3 : Value).ownBlock) (Kd.R_apart' (HO450.out) (Kd.S_typed HO_3.out) (by decide)) (fun k_ hk => ⟨trivial, hk.2⟩))).1 k_ hk_.symm) ?aF ?aO ?aB ?aS ?aL ?_; (case aP => exact k61_mkM _ _ _ (⟨t443, t444, t445, t446, t447, t448, t451, t452⟩ : S61) (Kd.R_mono (Kd.R_tight rfl (Kd.R_mono (ok' := fun k_ => ((fun _ => True)) k_ ∧ some k_ ≠ (u3 : Value).ownBlock) (Kd.R_apart' (HO450.out) (Kd.S_typed HO_3.out) (by decide)) (fun k_ hk => ⟨trivial, hk.2⟩))) (fun _ h_ => h_))); (case aB => exact (bw_q HB)); (case aF => exact (fun _ _ => trivial)); (case aO => exact (by (with_reducible repeat (first | apply Kd.S_alloc | apply Kd.S_drewN | apply Kd.S_drew)); exact Kd.S_mono HO_3.out (fun k_ hk => ⟨trivial, fun e_ => hk.2 e_⟩))); (case aS => exact (below_size (bw_q HB))); (case aL => have := LMc7.out; omega); intro v454 w9 ho hb hg hat; rw [← Ny453.out] at ho; replace HB := Aside0.mk (hb); have HO455 := Aside0.mk (ho); clear HO_3 HO450; clear ho hb hg hat))
      go_roundg k1
      case measure => have := HK1.out; omega
      case rel => exact ⟨(y453), (wrap64 (x4_1 + 1)), (by first | rfl | (simp; done) | (simp [*]; done)), H', ⟨by have := HK1.out; omega⟩, ⟨by (with_reducible repeat (first | apply Kd.S_alloc | apply Kd.S_drewN | apply Kd.S_drew)); exact HO455.out⟩, ⟨bw_q HB⟩⟩
     ·rw [if_neg c7] at H
      exact absurd H (by simp)
    ·rw [if_neg c5] at H
     exact absurd H (by simp)
   ·rw [if_neg c4] at H
    have c4b0 : decide (x4_1 < (l0.length : Int)) = false := decide_eq_false c4
    clear c4
    obtain rfl := Option.some.inj H
    go_wp2
    go_ret
    exact ⟨_, er_q, by (with_reducible repeat (first | apply Kd.S_alloc | apply Kd.S_drewN | apply Kd.S_drew)); exact HO_3.out, bw_q HB⟩

end Go.Proofs.Ythjmdiggglkeaaa.Q
