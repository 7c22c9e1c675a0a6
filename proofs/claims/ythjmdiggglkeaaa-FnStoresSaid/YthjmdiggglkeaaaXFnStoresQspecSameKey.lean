import Derived.Test.YthjmdiggglkeaaaXFnStoresQimplnearOk
/- A Go function as a Lean function, and its contract: for every input the Go code comes to what the Lean function tells. -/



namespace Go.Proofs.Ythjmdiggglkeaaa.Q
open Go.RowKit Go.Proofs.YthjmdiggglkeaaaW.PrintWords Go.Proofs.YthjmdiggglkeaaaW.PrintLast Go.Proofs.YthjmdiggglkeaaaW.PrintMore
attribute [local go_sem] max2_int min2_int max_two min_two max_three min_three max_four min_four   -- for this text's walks alone
set_option linter.unusedVariables false
set_option linter.unusedSimpArgs false

/-! ### impl_RecordOk: function 110 -/
def impl_RecordOk.j0 : Nat → Bool → Int → Int → Int → Int → Int → List (S127) → Int → Bool → Option (Bool)
 | 0, _, _, _, _, _, _, _, _, _ => none
 | k + 1, x12, x332000, x332001, x332002, x332003, x332004, x332005, x332006, x332007 => if x12 = true then (some false) else (if x332001 = 1 then ((impl_in.f x332000 0 2).bind fun t334 => (if t334 = true then (if x332003 = 0 then ((impl_nearOk.f k x332000 x332001 x332002 x332003 x332004 x332005 x332006 x332007).bind fun t335 => (if t335 = true then (if x332006 = 0 then (some (!x332007)) else (some false)) else (some false))) else (some false)) else (some false))) else (if x332001 = 2 then ((impl_in.f x332000 0 2).bind fun t336 => (if t336 = true then ((impl_in.f x332003 1 6).bind fun t337 => (if t337 = true then (if (x332005.length : Int) = 0 then ((impl_in.f x332006 0 60000).bind fun t338 => (if t338 = true then (some (!x332007)) else (some false))) else (some false)) else (some false))) else (some false))) else (if x332001 = 3 then (if x332000 = 9 then ((impl_in.f x332003 1 9).bind fun t339 => (if t339 = true then (if (x332005.length : Int) = 0 then ((impl_in.f x332006 1 1000).bind fun t340 => (if t340 = true then (some true) else (some (x332006 == 60000)))) else (some false)) else (some false))) else (some false)) else (some false))))
def impl_RecordOk.f (k : Nat) (a0_0 : Int) (a0_1 : Int) (a0_2 : Int) (a0_3 : Int) (a0_4 : Int) (l0_5 : List (S127)) (a0_6 : Int) (a0_7 : Bool) : Option (Bool) := (impl_in.f a0_2 1 6).bind fun t332 => (if t332 = true then ((impl_in.f a0_4 1 100000).bind fun t333 => (impl_RecordOk.j0 k (!t333) a0_0 a0_1 a0_2 a0_3 a0_4 l0_5 a0_6 a0_7)) else (impl_RecordOk.j0 k true a0_0 a0_1 a0_2 a0_3 a0_4 l0_5 a0_6 a0_7))
theorem impl_RecordOk.mono_l : ∀ k, (∀ y0 y1 y2 y3 y4 y5 y6 y7 y8, LeO (impl_RecordOk.j0 k y0 y1 y2 y3 y4 y5 y6 y7 y8) (impl_RecordOk.j0 (k + 1) y0 y1 y2 y3 y4 y5 y6 y7 y8))
 | 0 => fun _ _ _ _ _ _ _ _ _ r h => by simp [impl_RecordOk.j0] at h
 | k + 1 => by
  have ih0 := impl_RecordOk.mono_l k
  ·intro y0 y1 y2 y3 y4 y5 y6 y7 y8
   unfold impl_RecordOk.j0
   repeat' first
   | (with_reducible exact ih0 _ _ _ _ _ _ _ _ _)
   | (with_reducible exact impl_nearOk.mono _ _ _ _ _ _ _ _ _)
   | (with_reducible exact LeO.refl _)
   | (with_reducible exact LeO.none _)
   | (with_reducible refine LeO.ite ?_ ?_)
   | (with_reducible refine LeO.bind ?_ (fun _ => ?_))
   | exact ih0 _ _ _ _ _ _ _ _ _
   | exact impl_nearOk.mono _ _ _ _ _ _ _ _ _
   | exact LeO.none _
   | refine LeO.ite ?_ ?_
   | refine LeO.bind ?_ (fun _ => ?_)
theorem impl_RecordOk.mono : ∀ a0 a1 a2 a3 a4 a5 a6 a7 k, LeO (impl_RecordOk.f k a0 a1 a2 a3 a4 a5 a6 a7) (impl_RecordOk.f (k + 1) a0 a1 a2 a3 a4 a5 a6 a7) := by
 intro a0 a1 a2 a3 a4 a5 a6 a7 k
 have ih0 := impl_RecordOk.mono_l k
 unfold impl_RecordOk.f
 repeat' first
   | (with_reducible exact ih0 _ _ _ _ _ _ _ _ _)
   | (with_reducible exact impl_nearOk.mono _ _ _ _ _ _ _ _ _)
   | (with_reducible exact LeO.refl _)
   | (with_reducible exact LeO.none _)
   | (with_reducible refine LeO.ite ?_ ?_)
   | (with_reducible refine LeO.bind ?_ (fun _ => ?_))
   | exact ih0 _ _ _ _ _ _ _ _ _
   | exact impl_nearOk.mono _ _ _ _ _ _ _ _ _
   | exact LeO.none _
   | refine LeO.ite ?_ ?_
   | refine LeO.bind ?_ (fun _ => ?_)
set_option maxHeartbeats 8000000 in
set_option maxRecDepth 100000 in
theorem impl_RecordOk.calls (k : Nat) (a0_0 : Int) (a0_1 : Int) (a0_2 : Int) (a0_3 : Int) (a0_4 : Int) (A0_5 : Option Addr) (c0_5 : Nat) (l0_5 : List (S127)) (a0_6 : Int) (a0_7 : Bool) (r : Bool) (w : World) (hr0_5 : Kd.C k127 w A0_5 l0_5.length l0_5) (hc0_5 : l0_5.length ≤ c0_5) (h : impl_RecordOk.f k a0_0 a0_1 a0_2 a0_3 a0_4 l0_5 a0_6 a0_7 = some r) :
  Calls Try.prog 110 #[.agg #[.int .i64 a0_0, .int .i64 a0_1, .int .i64 a0_2, .int .i64 a0_3, .int .i64 a0_4, .slice A0_5 l0_5.length c0_5, .int .i64 a0_6, .bool a0_7]] w fun e w' => e = .returned (.bool r) ∧ Below w.heap.size w w' := by
 have hu61 := Try.underlying61
 have HR0_5 := Aside0.mk hr0_5
 have HC0_5 := Aside0.mk hc0_5
 clear hr0_5 hc0_5
 have HB := Aside0.mk (Below.refl w.heap.size w)
 have H : ((impl_in.f a0_2 1 6).bind fun t332 => (if t332 = true then ((impl_in.f a0_4 1 100000).bind fun t333 => (impl_RecordOk.j0 k (!t333) a0_0 a0_1 a0_2 a0_3 a0_4 l0_5 a0_6 a0_7)) else (impl_RecordOk.j0 k true a0_0 a0_1 a0_2 a0_3 a0_4 l0_5 a0_6 a0_7))) = some r := h
 clear h
 have HC2 := Aside0.mk H
 clear H
 go_enter Try.func110, Try.ntmps110
 go_upto_region 1 with (first | ((with_reducible refine gate_dst (N := 1) rfl ?_); (try (refine gate_guard (by rfl) ?_; dsimp only)); refine box_q 1 #[.int .i64 a0_0, .int .i64 a0_1, .int .i64 a0_2, .int .i64 a0_3, .int .i64 a0_4, .slice A0_5 l0_5.length c0_5, .int .i64 a0_6, .bool a0_7] 61 ?_; intro gb331 hg w3 hbox hb; have BK331 := Aside0.mk (hbox); have GW331 := Aside0.mk ((by rw [hg]; exact (below_size (bw_q HB)) : w.heap.size ≤ gb331)); have GE331 := Aside0.mk ((by rw [hg]; exact (below_size (bw_q HB)) : w.heap.size ≤ gb331)); replace HB := Aside0.mk (below_step (bw_q HB) hb); clear hb hbox hg))
 (try simp only [Act.put, List.setIfInBounds_toArray, List.set_cons_zero, List.set_cons_succ])
 go_cut [12] (fun v12 wc => ∃ (kq : Nat) (x12_1 : Bool), v12 = .bool x12_1 ∧ Aside0 (impl_RecordOk.j0 kq x12_1 a0_0 a0_1 a0_2 a0_3 a0_4 l0_5 a0_6 a0_7 = some r) ∧ Aside0 (kq ≤ k) ∧ Aside0 (wc.heap[gb331]? = some (.cells #[.int .i64 a0_0, .int .i64 a0_1, .int .i64 a0_2, .int .i64 a0_3, .int .i64 a0_4, (.slice A0_5 l0_5.length c0_5), .int .i64 a0_6, .bool a0_7] 61 (0, 0))) ∧ Aside0 (Below w.heap.size w wc))
 case first =>
  have H := HC2.out
  clear HC2
  replace H := Option.bind_eq_some_iff.mp H
  obtain ⟨t332, A40, H⟩ := H
  replace H : (if t332 = true then ((impl_in.f a0_4 1 100000).bind fun t333 => (impl_RecordOk.j0 k (!t333) a0_0 a0_1 a0_2 a0_3 a0_4 l0_5 a0_6 a0_7)) else (impl_RecordOk.j0 k true a0_0 a0_1 a0_2 a0_3 a0_4 l0_5 a0_6 a0_7)) = some r := H
  have A4 := Aside0.mk A40
  clear A40
  by_cases c5 : t332 = true
  ·subst c5
   have H1 : ((impl_in.f a0_4 1 100000).bind fun t333 => (impl_RecordOk.j0 k (!t333) a0_0 a0_1 a0_2 a0_3 a0_4 l0_5 a0_6 a0_7)) = some r := by rw [if_pos rfl] at H; exact H
   clear H
   have H := H1
   clear H1
   replace H := Option.bind_eq_some_iff.mp H
   obtain ⟨t333, A60, H⟩ := H
   replace H : (impl_RecordOk.j0 k (!t333) a0_0 a0_1 a0_2 a0_3 a0_4 l0_5 a0_6 a0_7) = some r := H
   have A6 := Aside0.mk A60
   clear A60
   have H' := Aside0.mk H
   clear H
   obtain ⟨hcz7_0, hcz7_1, hcz7_2, hcz7_3, hcz7_4, hcz7_5, hcz7_6, hcz7_7⟩ := cz8_ BK331
   obtain ⟨hfz7_0, hfz7_1, hfz7_2, hfz7_3, hfz7_4, hfz7_5, hfz7_6, hfz7_7⟩ := fz8_ BK331
   go_wp2_with (first | ((with_reducible refine gate_callee (f := 81) rfl ?_); refine goesL_ (some 5) rfl rfl Try.func81 (by kernel_rfl) rfl #[.int .i64 a0_2, .int .i64 1, .int .i64 6] rfl mp_q ?_; (with_reducible refine (impl_in.calls a0_2 1 6 true _ A4.out).mono ?_); rintro e w' ⟨rfl, ⟨nd, rfl⟩⟩; refine ⟨_, rfl, ?_⟩) | (go_at_call 81; (with_reducible refine (impl_in.calls a0_4 1 100000 t333 _ A6.out).mono ?_); rintro e w' ⟨rfl, ⟨nd, rfl⟩⟩))
   go_meet
   case rel => exact ⟨_, (!t333), (by first | rfl | (simp; done) | (simp [*]; done)), H', ⟨by first | omega | exact Nat.le_refl _⟩, ⟨by refine bz_ ?_; exact BK331.out⟩, ⟨bw_q HB⟩⟩
  ·replace c5 := Bool.eq_false_iff.mpr c5
   subst c5
   have H1 : (impl_RecordOk.j0 k true a0_0 a0_1 a0_2 a0_3 a0_4 l0_5 a0_6 a0_7) = some r := by rw [if_neg (show ¬ (false = true) by decide)] at H; exact H
   clear H
   have H := H1
   clear H1
   have H' := Aside0.mk H
   clear H
   obtain ⟨hcz8_0, hcz8_1, hcz8_2, hcz8_3, hcz8_4, hcz8_5, hcz8_6, hcz8_7⟩ := cz8_ BK331
   obtain ⟨hfz8_0, hfz8_1, hfz8_2, hfz8_3, hfz8_4, hfz8_5, hfz8_6, hfz8_7⟩ := fz8_ BK331
   go_wp2_with (first | ((with_reducible refine gate_callee (f := 81) rfl ?_); refine goesL_ (some 5) rfl rfl Try.func81 (by kernel_rfl) rfl #[.int .i64 a0_2, .int .i64 1, .int .i64 6] rfl mp_q ?_; (with_reducible refine (impl_in.calls a0_2 1 6 false _ A4.out).mono ?_); rintro e w' ⟨rfl, ⟨nd, rfl⟩⟩; refine ⟨_, rfl, ?_⟩))
   go_meet
   case rel => exact ⟨_, (true), (by first | rfl | (simp; done) | (simp [*]; done)), H', ⟨by first | omega | exact Nat.le_refl _⟩, ⟨by refine bz_ ?_; exact BK331.out⟩, ⟨bw_q HB⟩⟩
 case rest =>
  clear HC2
  try clear c1
  try clear p2
  try clear c5
  try clear c8
  try clear hcz7_0
  try clear hcz7_1
  try clear hcz7_2
  try clear hcz7_3
  try clear hcz7_4
  try clear hcz7_5
  try clear hcz7_6
  try clear hcz7_7
  try clear hcz8_0
  try clear hcz8_1
  try clear hcz8_2
  try clear hcz8_3
  try clear hcz8_4
  try clear hcz8_5
  try clear hcz8_6
  try clear hcz8_7
  try clear hfz7_0
  try clear hfz7_1
  try clear hfz7_2
  try clear hfz7_3
  try clear hfz7_4
  try clear hfz7_5
  try clear hfz7_6
  try clear hfz7_7
  try clear hfz8_0
  try clear hfz8_1
  try clear hfz8_2
  try clear hfz8_3
  try clear hfz8_4
  try clear hfz8_5
  try clear hfz8_6
  try clear hfz8_7
  obtain ⟨kq, x12_1, rfl, HA, HJ1, BK331, HB⟩ := hcut
  cases kq with
  | zero => exact absurd HA.out (by simp [impl_RecordOk.j0])
  | succ kj1 =>
   have H := HA.out
   clear HA
   simp only [impl_RecordOk.j0] at H
   by_cases c9 : x12_1 = true
   ·subst c9
    have H1 : (some false) = some r := by rw [if_pos rfl] at H; exact H
    clear H
    have H := H1
    clear H1
    obtain rfl := Option.some.inj H
    go_wp2
    go_ret
    exact ⟨er_q, bw_q HB⟩
   ·replace c9 := Bool.eq_false_iff.mpr c9
    subst c9
    have H1 : (if a0_1 = 1 then ((impl_in.f a0_0 0 2).bind fun t334 => (if t334 = true then (if a0_3 = 0 then ((impl_nearOk.f kj1 a0_0 a0_1 a0_2 a0_3 a0_4 l0_5 a0_6 a0_7).bind fun t335 => (if t335 = true then (if a0_6 = 0 then (some (!a0_7)) else (some false)) else (some false))) else (some false)) else (some false))) else (if a0_1 = 2 then ((impl_in.f a0_0 0 2).bind fun t336 => (if t336 = true then ((impl_in.f a0_3 1 6).bind fun t337 => (if t337 = true then (if (l0_5.length : Int) = 0 then ((impl_in.f a0_6 0 60000).bind fun t338 => (if t338 = true then (some (!a0_7)) else (some false))) else (some false)) else (some false))) else (some false))) else (if a0_1 = 3 then (if a0_0 = 9 then ((impl_in.f a0_3 1 9).bind fun t339 => (if t339 = true then (if (l0_5.length : Int) = 0 then ((impl_in.f a0_6 1 1000).bind fun t340 => (if t340 = true then (some true) else (some (a0_6 == 60000)))) else (some false)) else (some false))) else (some false)) else (some false)))) = some r := by rw [if_neg (show ¬ (false = true) by decide)] at H; exact H
    clear H
    have H := H1
    clear H1
    by_cases c10 : a0_1 = 1
    ·rw [if_pos c10] at H
     have c10b0 : (a0_1 == 1) = true := beq_iff_eq.mpr c10
     have c10b1 : (a0_1 != 1) = false := bne_eq_false_iff_eq.mpr c10
     clear c10
     replace H := Option.bind_eq_some_iff.mp H
     obtain ⟨t334, A110, H⟩ := H
     replace H : (if t334 = true then (if a0_3 = 0 then ((impl_nearOk.f kj1 a0_0 a0_1 a0_2 a0_3 a0_4 l0_5 a0_6 a0_7).bind fun t335 => (if t335 = true then (if a0_6 = 0 then (some (!a0_7)) else (some false)) else (some false))) else (some false)) else (some false)) = some r := H
     have A11 := Aside0.mk A110
     clear A110
     by_cases c12 : t334 = true
     ·subst c12
      have H1 : (if a0_3 = 0 then ((impl_nearOk.f kj1 a0_0 a0_1 a0_2 a0_3 a0_4 l0_5 a0_6 a0_7).bind fun t335 => (if t335 = true then (if a0_6 = 0 then (some (!a0_7)) else (some false)) else (some false))) else (some false)) = some r := by rw [if_pos rfl] at H; exact H
      clear H
      have H := H1
      clear H1
      by_cases c13 : a0_3 = 0
      ·rw [if_pos c13] at H
       have c13b0 : (a0_3 == 0) = true := beq_iff_eq.mpr c13
       have c13b1 : (a0_3 != 0) = false := bne_eq_false_iff_eq.mpr c13
       clear c13
       replace H := Option.bind_eq_some_iff.mp H
       obtain ⟨t335, A140, H⟩ := H
       replace H : (if t335 = true then (if a0_6 = 0 then (some (!a0_7)) else (some false)) else (some false)) = some r := H
       have A14 := Aside0.mk A140
       clear A140
       by_cases c15 : t335 = true
       ·subst c15
        have H1 : (if a0_6 = 0 then (some (!a0_7)) else (some false)) = some r := by rw [if_pos rfl] at H; exact H
        clear H
        have H := H1
        clear H1
        by_cases c16 : a0_6 = 0
        ·rw [if_pos c16] at H
         have c16b0 : (a0_6 == 0) = true := beq_iff_eq.mpr c16
         have c16b1 : (a0_6 != 0) = false := bne_eq_false_iff_eq.mpr c16
         clear c16
         obtain rfl := Option.some.inj H
         obtain ⟨hcz17_0, hcz17_1, hcz17_2, hcz17_3, hcz17_4, hcz17_5, hcz17_6, hcz17_7⟩ := cz8_ BK331
         obtain ⟨hfz17_0, hfz17_1, hfz17_2, hfz17_3, hfz17_4, hfz17_5, hfz17_6, hfz17_7⟩ := fz8_ BK331
         go_wp2_with (first | ((with_reducible refine gate_callee (f := 81) rfl ?_); refine goesL_ (some 19) rfl rfl Try.func81 (by kernel_rfl) rfl #[.int .i64 a0_0, .int .i64 0, .int .i64 2] rfl mp_q ?_; (with_reducible refine (impl_in.calls a0_0 0 2 true _ A11.out).mono ?_); rintro e w' ⟨rfl, ⟨nd, rfl⟩⟩; refine ⟨_, rfl, ?_⟩) | (go_at_call 142; (with_reducible refine (impl_nearOk.calls kj1 a0_0 a0_1 a0_2 a0_3 a0_4 _ _ l0_5 a0_6 a0_7 true _ ?side1 ?side2 A14.out).mono ?_); (case side1 => repeat (first | exact (Kd.C_below HR0_5.out (bw_q HB)) | (with_reducible refine Kd.C_alloc ?_ _) | (with_reducible refine Kd.C_drewN ?_ _) | (with_reducible refine Kd.C_drew ?_))); (case side2 => exact HC0_5.out); rintro e w18 ⟨rfl, hb⟩; replace BK331 := Aside0.mk (blk_below (g := gb331) (bk_q BK331) hb); replace HB := Aside0.mk (below_step (bw_q HB) hb); (try clear hb); (try clear hb2); (try clear hk); (try clear hi); have hcz19_0 : w18.cell? ⟨gb331, 0, none⟩ = some (.int .i64 a0_0) := (blk_cell BK331.out 0).trans rfl; have hcz19_1 : w18.cell? ⟨gb331, 1, none⟩ = some (.int .i64 a0_1) := (blk_cell BK331.out 1).trans rfl; have hcz19_2 : w18.cell? ⟨gb331, 2, none⟩ = some (.int .i64 a0_2) := (blk_cell BK331.out 2).trans rfl; have hcz19_3 : w18.cell? ⟨gb331, 3, none⟩ = some (.int .i64 a0_3) := (blk_cell BK331.out 3).trans rfl; have hcz19_4 : w18.cell? ⟨gb331, 4, none⟩ = some (.int .i64 a0_4) := (blk_cell BK331.out 4).trans rfl; have hcz19_5 : w18.cell? ⟨gb331, 5, none⟩ = some (.slice A0_5 l0_5.length c0_5) := (blk_cell BK331.out 5).trans rfl; have hcz19_6 : w18.cell? ⟨gb331, 6, none⟩ = some (.int .i64 a0_6) := (blk_cell BK331.out 6).trans rfl; have hcz19_7 : w18.cell? ⟨gb331, 7, none⟩ = some (.bool a0_7) := (blk_cell BK331.out 7).trans rfl; have hfz19_0 := blk_frozen BK331.out 0; have hfz19_1 := blk_frozen BK331.out 1; have hfz19_2 := blk_frozen BK331.out 2; have hfz19_3 := blk_frozen BK331.out 3; have hfz19_4 := blk_frozen BK331.out 4; have hfz19_5 := blk_frozen BK331.out 5; have hfz19_6 := blk_frozen BK331.out 6; have hfz19_7 := blk_frozen BK331.out 7))
         go_ret
         exact ⟨er_q, bw_q HB⟩
        ·rw [if_neg c16] at H
         have c16b0 : (a0_6 == 0) = false := beq_eq_false_iff_ne.mpr c16
         have c16b1 : (a0_6 != 0) = true := bne_iff_ne.mpr c16
         obtain rfl := Option.some.inj H
         obtain ⟨hcz20_0, hcz20_1, hcz20_2, hcz20_3, hcz20_4, hcz20_5, hcz20_6, hcz20_7⟩ := cz8_ BK331
         obtain ⟨hfz20_0, hfz20_1, hfz20_2, hfz20_3, hfz20_4, hfz20_5, hfz20_6, hfz20_7⟩ := fz8_ BK331
         go_wp2_with (first | ((with_reducible refine gate_callee (f := 81) rfl ?_); refine goesL_ (some 19) rfl rfl Try.func81 (by kernel_rfl) rfl #[.int .i64 a0_0, .int .i64 0, .int .i64 2] rfl mp_q ?_; (with_reducible refine (impl_in.calls a0_0 0 2 true _ A11.out).mono ?_); rintro e w' ⟨rfl, ⟨nd, rfl⟩⟩; refine ⟨_, rfl, ?_⟩) | (go_at_call 142; (with_reducible refine (impl_nearOk.calls kj1 a0_0 a0_1 a0_2 a0_3 a0_4 _ _ l0_5 a0_6 a0_7 true _ ?side1 ?side2 A14.out).mono ?_); (case side1 => repeat (first | exact (Kd.C_below HR0_5.out (bw_q HB)) | (with_reducible refine Kd.C_alloc ?_ _) | (with_reducible refine Kd.C_drewN ?_ _) | (with_reducible refine Kd.C_drew ?_))); (case side2 => exact HC0_5.out); rintro e w21 ⟨rfl, hb⟩; replace BK331 := Aside0.mk (blk_below (g := gb331) (bk_q BK331) hb); replace HB := Aside0.mk (below_step (bw_q HB) hb); (try clear hb); (try clear hb2); (try clear hk); (try clear hi); have hcz22_0 : w21.cell? ⟨gb331, 0, none⟩ = some (.int .i64 a0_0) := (blk_cell BK331.out 0).trans rfl; have hcz22_1 : w21.cell? ⟨gb331, 1, none⟩ = some (.int .i64 a0_1) := (blk_cell BK331.out 1).trans rfl; have hcz22_2 : w21.cell? ⟨gb331, 2, none⟩ = some (.int .i64 a0_2) := (blk_cell BK331.out 2).trans rfl; have hcz22_3 : w21.cell? ⟨gb331, 3, none⟩ = some (.int .i64 a0_3) := (blk_cell BK331.out 3).trans rfl; have hcz22_4 : w21.cell? ⟨gb331, 4, none⟩ = some (.int .i64 a0_4) := (blk_cell BK331.out 4).trans rfl; have hcz22_5 : w21.cell? ⟨gb331, 5, none⟩ = some (.slice A0_5 l0_5.length c0_5) := (blk_cell BK331.out 5).trans rfl; have hcz22_6 : w21.cell? ⟨gb331, 6, none⟩ = some (.int .i64 a0_6) := (blk_cell BK331.out 6).trans rfl; have hcz22_7 : w21.cell? ⟨gb331, 7, none⟩ = some (.bool a0_7) := (blk_cell BK331.out 7).trans rfl; have hfz22_0 := blk_frozen BK331.out 0; have hfz22_1 := blk_frozen BK331.out 1; have hfz22_2 := blk_frozen BK331.out 2; have hfz22_3 := blk_frozen BK331.out 3; have hfz22_4 := blk_frozen BK331.out 4; have hfz22_5 := blk_frozen BK331.out 5; have hfz22_6 := blk_frozen BK331.out 6; have hfz22_7 := blk_frozen BK331.out 7))
         go_ret
         exact ⟨er_q, bw_q HB⟩
       ·replace c15 := Bool.eq_false_iff.mpr c15
        subst c15
        have H1 : (some false) = some r := by rw [if_neg (show ¬ (false = true) by decide)] at H; exact H
        clear H
        have H := H1
        clear H1
        obtain rfl := Option.some.inj H
        obtain ⟨hcz23_0, hcz23_1, hcz23_2, hcz23_3, hcz23_4, hcz23_5, hcz23_6, hcz23_7⟩ := cz8_ BK331
        obtain ⟨hfz23_0, hfz23_1, hfz23_2, hfz23_3, hfz23_4, hfz23_5, hfz23_6, hfz23_7⟩ := fz8_ BK331
        go_wp2_with (first | ((with_reducible refine gate_callee (f := 81) rfl ?_); refine goesL_ (some 19) rfl rfl Try.func81 (by kernel_rfl) rfl #[.int .i64 a0_0, .int .i64 0, .int .i64 2] rfl mp_q ?_; (with_reducible refine (impl_in.calls a0_0 0 2 true _ A11.out).mono ?_); rintro e w' ⟨rfl, ⟨nd, rfl⟩⟩; refine ⟨_, rfl, ?_⟩) | (go_at_call 142; (with_reducible refine (impl_nearOk.calls kj1 a0_0 a0_1 a0_2 a0_3 a0_4 _ _ l0_5 a0_6 a0_7 false _ ?side1 ?side2 A14.out).mono ?_); (case side1 => repeat (first | exact (Kd.C_below HR0_5.out (bw_q HB)) | (with_reducible refine Kd.C_alloc ?_ _) | (with_reducible refine Kd.C_drewN ?_ _) | (with_reducible refine Kd.C_drew ?_))); (case side2 => exact HC0_5.out); rintro e w24 ⟨rfl, hb⟩; replace BK331 := Aside0.mk (blk_below (g := gb331) (bk_q BK331) hb); replace HB := Aside0.mk (below_step (bw_q HB) hb); (try clear hb); (try clear hb2); (try clear hk); (try clear hi)))
        go_ret
        exact ⟨er_q, bw_q HB⟩
      ·rw [if_neg c13] at H
       have c13b0 : (a0_3 == 0) = false := beq_eq_false_iff_ne.mpr c13
       have c13b1 : (a0_3 != 0) = true := bne_iff_ne.mpr c13
       obtain rfl := Option.some.inj H
       obtain ⟨hcz25_0, hcz25_1, hcz25_2, hcz25_3, hcz25_4, hcz25_5, hcz25_6, hcz25_7⟩ := cz8_ BK331
       obtain ⟨hfz25_0, hfz25_1, hfz25_2, hfz25_3, hfz25_4, hfz25_5, hfz25_6, hfz25_7⟩ := fz8_ BK331
       go_wp2_with (first | ((with_reducible refine gate_callee (f := 81) rfl ?_); refine goesL_ (some 19) rfl rfl Try.func81 (by kernel_rfl) rfl #[.int .i64 a0_0, .int .i64 0, .int .i64 2] rfl mp_q ?_; (with_reducible refine (impl_in.calls a0_0 0 2 true _ A11.out).mono ?_); rintro e w' ⟨rfl, ⟨nd, rfl⟩⟩; refine ⟨_, rfl, ?_⟩))
       go_ret
       exact ⟨er_q, bw_q HB⟩
     ·replace c12 := Bool.eq_false_iff.mpr c12
      subst c12
      have H1 : (some false) = some r := by rw [if_neg (show ¬ (false = true) by decide)] at H; exact H
      clear H
      have H := H1
      clear H1
      obtain rfl := Option.some.inj H
      obtain ⟨hcz26_0, hcz26_1, hcz26_2, hcz26_3, hcz26_4, hcz26_5, hcz26_6, hcz26_7⟩ := cz8_ BK331
      obtain ⟨hfz26_0, hfz26_1, hfz26_2, hfz26_3, hfz26_4, hfz26_5, hfz26_6, hfz26_7⟩ := fz8_ BK331
      go_wp2_with (first | ((with_reducible refine gate_callee (f := 81) rfl ?_); refine goesL_ (some 19) rfl rfl Try.func81 (by kernel_rfl) rfl #[.int .i64 a0_0, .int .i64 0, .int .i64 2] rfl mp_q ?_; (with_reducible refine (impl_in.calls a0_0 0 2 false _ A11.out).mono ?_); rintro e w' ⟨rfl, ⟨nd, rfl⟩⟩; refine ⟨_, rfl, ?_⟩))
      go_ret
      exact ⟨er_q, bw_q HB⟩
    ·rw [if_neg c10] at H
     have c10b0 : (a0_1 == 1) = false := beq_eq_false_iff_ne.mpr c10
     have c10b1 : (a0_1 != 1) = true := bne_iff_ne.mpr c10
     by_cases c27 : a0_1 = 2
     ·rw [if_pos c27] at H
      have c27b0 : (a0_1 == 2) = true := beq_iff_eq.mpr c27
      have c27b1 : (a0_1 != 2) = false := bne_eq_false_iff_eq.mpr c27
      clear c27
      replace H := Option.bind_eq_some_iff.mp H
      obtain ⟨t336, A280, H⟩ := H
      replace H : (if t336 = true then ((impl_in.f a0_3 1 6).bind fun t337 => (if t337 = true then (if (l0_5.length : Int) = 0 then ((impl_in.f a0_6 0 60000).bind fun t338 => (if t338 = true then (some (!a0_7)) else (some false))) else (some false)) else (some false))) else (some false)) = some r := H
      have A28 := Aside0.mk A280
      clear A280
      by_cases c29 : t336 = true
      ·subst c29
       have H1 : ((impl_in.f a0_3 1 6).bind fun t337 => (if t337 = true then (if (l0_5.length : Int) = 0 then ((impl_in.f a0_6 0 60000).bind fun t338 => (if t338 = true then (some (!a0_7)) else (some false))) else (some false)) else (some false))) = some r := by rw [if_pos rfl] at H; exact H
       clear H
       have H := H1
       clear H1
       replace H := Option.bind_eq_some_iff.mp H
       obtain ⟨t337, A300, H⟩ := H
       replace H : (if t337 = true then (if (l0_5.length : Int) = 0 then ((impl_in.f a0_6 0 60000).bind fun t338 => (if t338 = true then (some (!a0_7)) else (some false))) else (some false)) else (some false)) = some r := H
       have A30 := Aside0.mk A300
       clear A300
       by_cases c31 : t337 = true
       ·subst c31
        have H1 : (if (l0_5.length : Int) = 0 then ((impl_in.f a0_6 0 60000).bind fun t338 => (if t338 = true then (some (!a0_7)) else (some false))) else (some false)) = some r := by rw [if_pos rfl] at H; exact H
        clear H
        have H := H1
        clear H1
        by_cases c32 : (l0_5.length : Int) = 0
        ·rw [if_pos c32] at H
         have c32b0 : ((l0_5.length : Int) == 0) = true := beq_iff_eq.mpr c32
         have c32b1 : ((l0_5.length : Int) != 0) = false := bne_eq_false_iff_eq.mpr c32
         clear c32
         replace H := Option.bind_eq_some_iff.mp H
         obtain ⟨t338, A330, H⟩ := H
         replace H : (if t338 = true then (some (!a0_7)) else (some false)) = some r := H
         have A33 := Aside0.mk A330
         clear A330
         by_cases c34 : t338 = true
         ·subst c34
          have H1 : (some (!a0_7)) = some r := by rw [if_pos rfl] at H; exact H
          clear H
          have H := H1
          clear H1
          obtain rfl := Option.some.inj H
          obtain ⟨hcz35_0, hcz35_1, hcz35_2, hcz35_3, hcz35_4, hcz35_5, hcz35_6, hcz35_7⟩ := cz8_ BK331
          obtain ⟨hfz35_0, hfz35_1, hfz35_2, hfz35_3, hfz35_4, hfz35_5, hfz35_6, hfz35_7⟩ := fz8_ BK331
          go_wp2_with (first | ((with_reducible refine gate_callee (f := 81) rfl ?_); refine goesL_ (some 43) rfl rfl Try.func81 (by kernel_rfl) rfl #[.int .i64 a0_0, .int .i64 0, .int .i64 2] rfl mp_q ?_; (with_reducible refine (impl_in.calls a0_0 0 2 true _ A28.out).mono ?_); rintro e w' ⟨rfl, ⟨nd, rfl⟩⟩; refine ⟨_, rfl, ?_⟩) | (go_at_call 81; (with_reducible refine (impl_in.calls a0_3 1 6 true _ A30.out).mono ?_); rintro e w' ⟨rfl, ⟨nd, rfl⟩⟩) | (go_at_call 81; (with_reducible refine (impl_in.calls a0_6 0 60000 true _ A33.out).mono ?_); rintro e w' ⟨rfl, ⟨nd, rfl⟩⟩))
          go_ret
          exact ⟨er_q, bw_q HB⟩
         ·replace c34 := Bool.eq_false_iff.mpr c34
          subst c34
          have H1 : (some false) = some r := by rw [if_neg (show ¬ (false = true) by decide)] at H; exact H
          clear H
          have H := H1
          clear H1
          obtain rfl := Option.some.inj H
          obtain ⟨hcz36_0, hcz36_1, hcz36_2, hcz36_3, hcz36_4, hcz36_5, hcz36_6, hcz36_7⟩ := cz8_ BK331
          obtain ⟨hfz36_0, hfz36_1, hfz36_2, hfz36_3, hfz36_4, hfz36_5, hfz36_6, hfz36_7⟩ := fz8_ BK331
          go_wp2_with (first | ((with_reducible refine gate_callee (f := 81) rfl ?_); refine goesL_ (some 43) rfl rfl Try.func81 (by kernel_rfl) rfl #[.int .i64 a0_0, .int .i64 0, .int .i64 2] rfl mp_q ?_; (with_reducible refine (impl_in.calls a0_0 0 2 true _ A28.out).mono ?_); rintro e w' ⟨rfl, ⟨nd, rfl⟩⟩; refine ⟨_, rfl, ?_⟩) | (go_at_call 81; (with_reducible refine (impl_in.calls a0_3 1 6 true _ A30.out).mono ?_); rintro e w' ⟨rfl, ⟨nd, rfl⟩⟩) | (go_at_call 81; (with_reducible refine (impl_in.calls a0_6 0 60000 false _ A33.out).mono ?_); rintro e w' ⟨rfl, ⟨nd, rfl⟩⟩))
          go_ret
          exact ⟨er_q, bw_q HB⟩
        ·rw [if_neg c32] at H
         have c32b0 : ((l0_5.length : Int) == 0) = false := beq_eq_false_iff_ne.mpr c32
         have c32b1 : ((l0_5.length : Int) != 0) = true := bne_iff_ne.mpr c32
         have c32b2 : ¬ (l0_5 = []) := fun h_ => c32 (by rw [h_]; rfl)
         obtain rfl := Option.some.inj H
         obtain ⟨hcz37_0, hcz37_1, hcz37_2, hcz37_3, hcz37_4, hcz37_5, hcz37_6, hcz37_7⟩ := cz8_ BK331
         obtain ⟨hfz37_0, hfz37_1, hfz37_2, hfz37_3, hfz37_4, hfz37_5, hfz37_6, hfz37_7⟩ := fz8_ BK331
         go_wp2_with (first | ((with_reducible refine gate_callee (f := 81) rfl ?_); refine goesL_ (some 43) rfl rfl Try.func81 (by kernel_rfl) rfl #[.int .i64 a0_0, .int .i64 0, .int .i64 2] rfl mp_q ?_; (with_reducible refine (impl_in.calls a0_0 0 2 true _ A28.out).mono ?_); rintro e w' ⟨rfl, ⟨nd, rfl⟩⟩; refine ⟨_, rfl, ?_⟩) | (go_at_call 81; (with_reducible refine (impl_in.calls a0_3 1 6 true _ A30.out).mono ?_); rintro e w' ⟨rfl, ⟨nd, rfl⟩⟩))
         go_ret
         exact ⟨er_q, bw_q HB⟩
       ·replace c31 := Bool.eq_false_iff.mpr c31
        subst c31
        have H1 : (some false) = some r := by rw [if_neg (show ¬ (false = true) by decide)] at H; exact H
        clear H
        have H := H1
        clear H1
        obtain rfl := Option.some.inj H
        obtain ⟨hcz38_0, hcz38_1, hcz38_2, hcz38_3, hcz38_4, hcz38_5, hcz38_6, hcz38_7⟩ := cz8_ BK331
        obtain ⟨hfz38_0, hfz38_1, hfz38_2, hfz38_3, hfz38_4, hfz38_5, hfz38_6, hfz38_7⟩ := fz8_ BK331
        go_wp2_with (first | ((with_reducible refine gate_callee (f := 81) rfl ?_); refine goesL_ (some 43) rfl rfl Try.func81 (by kernel_rfl) rfl #[.int .i64 a0_0, .int .i64 0, .int .i64 2] rfl mp_q ?_; (with_reducible refine (impl_in.calls a0_0 0 2 true _ A28.out).mono ?_); rintro e w' ⟨rfl, ⟨nd, rfl⟩⟩; refine ⟨_, rfl, ?_⟩) | (go_at_call 81; (with_reducible refine (impl_in.calls a0_3 1 6 false _ A30.out).mono ?_); rintro e w' ⟨rfl, ⟨nd, rfl⟩⟩))
        go_ret
        exact ⟨er_q, bw_q HB⟩
      ·replace c29 := Bool.eq_false_iff.mpr c29
       subst c29
       have H1 : (some false) = some r := by rw [if_neg (show ¬ (false = true) by decide)] at H; exact H
       clear H
       have H := H1
       clear H1
       obtain rfl := Option.some.inj H
       obtain ⟨hcz39_0, hcz39_1, hcz39_2, hcz39_3, hcz39_4, hcz39_5, hcz39_6, hcz39_7⟩ := cz8_ BK331
       obtain ⟨hfz39_0, hfz39_1, hfz39_2, hfz39_3, hfz39_4, hfz39_5, hfz39_6, hfz39_7⟩ := fz8_ BK331
       go_wp2_with (first | ((with_reducible refine gate_callee (f := 81) rfl ?_); refine goesL_ (some 43) rfl rfl Try.func81 (by kernel_rfl) rfl #[.int .i64 a0_0, .int .i64 0, .int .i64 2] rfl mp_q ?_; (with_reducible refine (impl_in.calls a0_0 0 2 false _ A28.out).mono ?_); rintro e w' ⟨rfl, ⟨nd, rfl⟩⟩; refine ⟨_, rfl, ?_⟩))
       go_ret
       exact ⟨er_q, bw_q HB⟩
     ·rw [if_neg c27] at H
      have c27b0 : (a0_1 == 2) = false := beq_eq_false_iff_ne.mpr c27
      have c27b1 : (a0_1 != 2) = true := bne_iff_ne.mpr c27
      by_cases c40 : a0_1 = 3
      ·rw [if_pos c40] at H
       have c40b0 : (a0_1 == 3) = true := beq_iff_eq.mpr c40
       have c40b1 : (a0_1 != 3) = false := bne_eq_false_iff_eq.mpr c40
       clear c40
       by_cases c41 : a0_0 = 9
       ·rw [if_pos c41] at H
        have c41b0 : (a0_0 == 9) = true := beq_iff_eq.mpr c41
        have c41b1 : (a0_0 != 9) = false := bne_eq_false_iff_eq.mpr c41
        clear c41
        replace H := Option.bind_eq_some_iff.mp H
        obtain ⟨t339, A420, H⟩ := H
        replace H : (if t339 = true then (if (l0_5.length : Int) = 0 then ((impl_in.f a0_6 1 1000).bind fun t340 => (if t340 = true then (some true) else (some (a0_6 == 60000)))) else (some false)) else (some false)) = some r := H
        have A42 := Aside0.mk A420
        clear A420
        by_cases c43 : t339 = true
        ·subst c43
         have H1 : (if (l0_5.length : Int) = 0 then ((impl_in.f a0_6 1 1000).bind fun t340 => (if t340 = true then (some true) else (some (a0_6 == 60000)))) else (some false)) = some r := by rw [if_pos rfl] at H; exact H
         clear H
         have H := H1
         clear H1
         by_cases c44 : (l0_5.length : Int) = 0
         ·rw [if_pos c44] at H
          have c44b0 : ((l0_5.length : Int) == 0) = true := beq_iff_eq.mpr c44
          have c44b1 : ((l0_5.length : Int) != 0) = false := bne_eq_false_iff_eq.mpr c44
          clear c44
          replace H := Option.bind_eq_some_iff.mp H
          obtain ⟨t340, A450, H⟩ := H
          replace H : (if t340 = true then (some true) else (some (a0_6 == 60000))) = some r := H
          have A45 := Aside0.mk A450
          clear A450
          by_cases c46 : t340 = true
          ·subst c46
           have H1 : (some true) = some r := by rw [if_pos rfl] at H; exact H
           clear H
           have H := H1
           clear H1
           obtain rfl := Option.some.inj H
           obtain ⟨hcz47_0, hcz47_1, hcz47_2, hcz47_3, hcz47_4, hcz47_5, hcz47_6, hcz47_7⟩ := cz8_ BK331
           obtain ⟨hfz47_0, hfz47_1, hfz47_2, hfz47_3, hfz47_4, hfz47_5, hfz47_6, hfz47_7⟩ := fz8_ BK331
           go_wp2_with (first | (go_at_call 81; (with_reducible refine (impl_in.calls a0_3 1 9 true _ A42.out).mono ?_); rintro e w' ⟨rfl, ⟨nd, rfl⟩⟩) | (go_at_call 81; (with_reducible refine (impl_in.calls a0_6 1 1000 true _ A45.out).mono ?_); rintro e w' ⟨rfl, ⟨nd, rfl⟩⟩))
           go_ret
           exact ⟨er_q, bw_q HB⟩
          ·replace c46 := Bool.eq_false_iff.mpr c46
           subst c46
           have H1 : (some (a0_6 == 60000)) = some r := by rw [if_neg (show ¬ (false = true) by decide)] at H; exact H
           clear H
           have H := H1
           clear H1
           obtain rfl := Option.some.inj H
           obtain ⟨hcz48_0, hcz48_1, hcz48_2, hcz48_3, hcz48_4, hcz48_5, hcz48_6, hcz48_7⟩ := cz8_ BK331
           obtain ⟨hfz48_0, hfz48_1, hfz48_2, hfz48_3, hfz48_4, hfz48_5, hfz48_6, hfz48_7⟩ := fz8_ BK331
           go_wp2_with (first | (go_at_call 81; (with_reducible refine (impl_in.calls a0_3 1 9 true _ A42.out).mono ?_); rintro e w' ⟨rfl, ⟨nd, rfl⟩⟩) | (go_at_call 81; (with_reducible refine (impl_in.calls a0_6 1 1000 false _ A45.out).mono ?_); rintro e w' ⟨rfl, ⟨nd, rfl⟩⟩))
           go_ret
           exact ⟨er_q, bw_q HB⟩
         ·rw [if_neg c44] at H
          have c44b0 : ((l0_5.length : Int) == 0) = false := beq_eq_false_iff_ne.mpr c44
          have c44b1 : ((l0_5.length : Int) != 0) = true := bne_iff_ne.mpr c44
          have c44b2 : ¬ (l0_5 = []) := fun h_ => c44 (by rw [h_]; rfl)
          obtain rfl := Option.some.inj H
          obtain ⟨hcz49_0, hcz49_1, hcz49_2, hcz49_3, hcz49_4, hcz49_5, hcz49_6, hcz49_7⟩ := cz8_ BK331
          obtain ⟨hfz49_0, hfz49_1, hfz49_2, hfz49_3, hfz49_4, hfz49_5, hfz49_6, hfz49_7⟩ := fz8_ BK331
          go_wp2_with (first | (go_at_call 81; (with_reducible refine (impl_in.calls a0_3 1 9 true _ A42.out).mono ?_); rintro e w' ⟨rfl, ⟨nd, rfl⟩⟩))
          go_ret
          exact ⟨er_q, bw_q HB⟩
        ·replace c43 := Bool.eq_false_iff.mpr c43
         subst c43
         have H1 : (some false) = some r := by rw [if_neg (show ¬ (false = true) by decide)] at H; exact H
         clear H
         have H := H1
         clear H1
         obtain rfl := Option.some.inj H
         obtain ⟨hcz50_0, hcz50_1, hcz50_2, hcz50_3, hcz50_4, hcz50_5, hcz50_6, hcz50_7⟩ := cz8_ BK331
         obtain ⟨hfz50_0, hfz50_1, hfz50_2, hfz50_3, hfz50_4, hfz50_5, hfz50_6, hfz50_7⟩ := fz8_ BK331
         go_wp2_with (first | (go_at_call 81; (with_reducible refine (impl_in.calls a0_3 1 9 false _ A42.out).mono ?_); rintro e w' ⟨rfl, ⟨nd, rfl⟩⟩))
         go_ret
         exact ⟨er_q, bw_q HB⟩
       ·rw [if_neg c41] at H
        have c41b0 : (a0_0 == 9) = false := beq_eq_false_iff_ne.mpr c41
        have c41b1 : (a0_0 != 9) = true := bne_iff_ne.mpr c41
        obtain rfl := Option.some.inj H
        obtain ⟨hcz51_0, hcz51_1, hcz51_2, hcz51_3, hcz51_4, hcz51_5, hcz51_6, hcz51_7⟩ := cz8_ BK331
        obtain ⟨hfz51_0, hfz51_1, hfz51_2, hfz51_3, hfz51_4, hfz51_5, hfz51_6, hfz51_7⟩ := fz8_ BK331
        go_wp2
        go_ret
        exact ⟨er_q, bw_q HB⟩
      ·rw [if_neg c40] at H
       have c40b0 : (a0_1 == 3) = false := beq_eq_false_iff_ne.mpr c40
       have c40b1 : (a0_1 != 3) = true := bne_iff_ne.mpr c40
       obtain rfl := Option.some.inj H
       obtain ⟨hcz52_0, hcz52_1, hcz52_2, hcz52_3, hcz52_4, hcz52_5, hcz52_6, hcz52_7⟩ := cz8_ BK331
       obtain ⟨hfz52_0, hfz52_1, hfz52_2, hfz52_3, hfz52_4, hfz52_5, hfz52_6, hfz52_7⟩ := fz8_ BK331
       go_wp2
       go_ret
       exact ⟨er_q, bw_q HB⟩

end Go.Proofs.Ythjmdiggglkeaaa.Q

/- A Go function as a Lean function, and its contract: for every input the Go code comes to what the Lean function tells. -/



namespace Go.Proofs.Ythjmdiggglkeaaa.Q
open Go.RowKit Go.Proofs.YthjmdiggglkeaaaW.PrintWords Go.Proofs.YthjmdiggglkeaaaW.PrintLast Go.Proofs.YthjmdiggglkeaaaW.PrintMore
attribute [local go_sem] max2_int min2_int max_two min_two max_three min_three max_four min_four   -- for this text's walks alone
set_option linter.unusedVariables false
set_option linter.unusedSimpArgs false

/-! ### impl_StoreOk: function 50 -/
def impl_StoreOk.l0 : Nat → List (S61) → List (S61) → Int → Int → Option (Bool)
 | 0, _, _, _, _ => none
 | k + 1, x0, x5, x6, x7 => if x7 < x6 then (if 0 ≤ x7 then (if x7 < (x5.length : Int) then ((impl_RecordOk.f k ((rd_T61 x5 x7).f0) ((rd_T61 x5 x7).f1) ((rd_T61 x5 x7).f2) ((rd_T61 x5 x7).f3) ((rd_T61 x5 x7).f4) ((rd_T61 x5 x7).f5) ((rd_T61 x5 x7).f6) ((rd_T61 x5 x7).f7)).bind fun t343 => (if t343 = true then (if x7 > 0 then (if 0 ≤ (wrap64 (x7 - 1)) then (if (wrap64 (x7 - 1)) < (x0.length : Int) then ((impl_Before.f ((rd_T61 x0 (wrap64 (x7 - 1))).f0) ((rd_T61 x0 (wrap64 (x7 - 1))).f1) ((rd_T61 x0 (wrap64 (x7 - 1))).f2) ((rd_T61 x0 (wrap64 (x7 - 1))).f3) ((rd_T61 x0 (wrap64 (x7 - 1))).f4) ((rd_T61 x0 (wrap64 (x7 - 1))).f5) ((rd_T61 x0 (wrap64 (x7 - 1))).f6) ((rd_T61 x0 (wrap64 (x7 - 1))).f7) ((rd_T61 x5 x7).f0) ((rd_T61 x5 x7).f1) ((rd_T61 x5 x7).f2) ((rd_T61 x5 x7).f3) ((rd_T61 x5 x7).f4) ((rd_T61 x5 x7).f5) ((rd_T61 x5 x7).f6) ((rd_T61 x5 x7).f7)).bind fun t345 => (if t345 = true then (impl_StoreOk.l0 k x0 x5 x6 (wrap64 (x7 + 1))) else (some false))) else (none)) else (none)) else (impl_StoreOk.l0 k x0 x5 x6 (wrap64 (x7 + 1)))) else (some false))) else (none)) else (none)) else (some (decide ((x0.length : Int) ≤ 150)))
def impl_StoreOk.f (k : Nat) (l0 : List (S61)) : Option (Bool) := impl_StoreOk.l0 k l0 l0 (l0.length : Int) 0
theorem impl_StoreOk.mono_l : ∀ k, (∀ y0 y1 y2 y3, LeO (impl_StoreOk.l0 k y0 y1 y2 y3) (impl_StoreOk.l0 (k + 1) y0 y1 y2 y3))
 | 0 => fun _ _ _ _ r h => by simp [impl_StoreOk.l0] at h
 | k + 1 => by
  have ih0 := impl_StoreOk.mono_l k
  ·intro y0 y1 y2 y3
   unfold impl_StoreOk.l0
   repeat' first
   | (with_reducible exact ih0 _ _ _ _)
   | (with_reducible exact impl_RecordOk.mono _ _ _ _ _ _ _ _ _)
   | (with_reducible exact LeO.refl _)
   | (with_reducible exact LeO.none _)
   | (with_reducible refine LeO.ite ?_ ?_)
   | (with_reducible refine LeO.bind ?_ (fun _ => ?_))
   | exact ih0 _ _ _ _
   | exact impl_RecordOk.mono _ _ _ _ _ _ _ _ _
   | exact LeO.none _
   | refine LeO.ite ?_ ?_
   | refine LeO.bind ?_ (fun _ => ?_)
theorem impl_StoreOk.mono : ∀ a0 k, LeO (impl_StoreOk.f k a0) (impl_StoreOk.f (k + 1) a0) := by
 intro a0 k
 have ih0 := impl_StoreOk.mono_l k
 unfold impl_StoreOk.f
 repeat' first
   | (with_reducible exact ih0 _ _ _ _)
   | (with_reducible exact impl_RecordOk.mono _ _ _ _ _ _ _ _ _)
   | (with_reducible exact LeO.refl _)
   | (with_reducible exact LeO.none _)
   | (with_reducible refine LeO.ite ?_ ?_)
   | (with_reducible refine LeO.bind ?_ (fun _ => ?_))
   | exact ih0 _ _ _ _
   | exact impl_RecordOk.mono _ _ _ _ _ _ _ _ _
   | exact LeO.none _
   | refine LeO.ite ?_ ?_
   | refine LeO.bind ?_ (fun _ => ?_)
def impl_StoreOk.T4 : Bool × List (List Nat × List Nat) := (true, [([], []), ([0], [0]), ([1], [1]), ([2, 1], [2]), ([3], [3]), ([4, 3], [3, 4]), ([5, 3, 3], [3, 5]), ([6], [6]), ([6], [6]), ([8, 6], [6, 8]), ([7, 9, 6], [6, 7, 9]), ([10, 6], [6, 10]), ([6], [6]), ([11, 12, 6, 6], [6, 11, 12]), ([13, 6], [6, 13]), ([6, 14, 3], [3, 6, 14]), ([3, 15], [3, 15])])
def impl_StoreOk.B4 : List Nat := [0, 1, 3, 7, 15, 31, 63, 127, 127, 383, 1023, 2047, 127, 8191, 16383, 32767, 65535]
theorem impl_StoreOk.tab4 : rtab .any (opsOf Try.f50 4) = impl_StoreOk.T4 := by kernel_rfl
theorem impl_StoreOk.bits4 : waitsOk impl_StoreOk.T4.2 impl_StoreOk.B4 = true := by kernel_rfl
set_option maxHeartbeats 8000000 in
set_option maxRecDepth 100000 in
theorem impl_StoreOk.calls (k : Nat) (A0 : Option Addr) (c0 : Nat) (l0 : List (S61)) (r : Bool) (w : World) (hr0 : Kd.C k61 w A0 l0.length l0) (hc0 : l0.length ≤ c0) (h : impl_StoreOk.f k l0 = some r) :
  Calls Try.prog 50 #[.slice A0 l0.length c0] w fun e w' => e = .returned (.bool r) ∧ Below w.heap.size w w' := by
 have hu61 := Try.underlying61
 have HR0 := Aside0.mk hr0
 have HC0 := Aside0.mk hc0
 clear hr0 hc0
 have HB := Aside0.mk (Below.refl w.heap.size w)
 have H : (impl_StoreOk.l0 k l0 l0 (l0.length : Int) 0) = some r := h
 clear h
 have H' := Aside0.mk H
 clear H
 go_enter Try.func50, Try.ntmps50
 go_wp2
 go_loopg [7] k (fun kq v7 w' => ∃ (x7_1 : Int), v7 = .int .i64 x7_1 ∧ Aside0 (impl_StoreOk.l0 kq l0 l0 (l0.length : Int) x7_1 = some r) ∧ Aside0 (kq ≤ k) ∧ Aside0 (Below w.heap.size w w'))
 case atStart => exact ⟨(0), (by first | rfl | (simp; done) | (simp [*]; done)), H', ⟨Nat.le_refl _⟩, ⟨bw_q HB⟩⟩
 case round =>
  clear H'
  obtain ⟨x7_1, rfl, HA, HK1, HB⟩ := hrel
  cases gk with
  | zero => exact absurd HA.out (by simp [impl_StoreOk.l0])
  | succ k1 =>
   have H := HA.out
   clear HA
   simp only [impl_StoreOk.l0] at H
   by_cases c2 : x7_1 < (l0.length : Int)
   ·rw [if_pos c2] at H
    have c2b0 : decide (x7_1 < (l0.length : Int)) = true := decide_eq_true c2
    clear c2
    by_cases c3 : 0 ≤ x7_1
    ·rw [if_pos c3] at H
     have c3b0 : decide (0 ≤ x7_1) = true := decide_eq_true c3
     clear c3
     by_cases c4 : x7_1 < (l0.length : Int)
     ·rw [if_pos c4] at H
      have c4b0 : decide (x7_1 < (l0.length : Int)) = true := decide_eq_true c4
      clear c4
      replace H := Option.bind_eq_some_iff.mp H
      obtain ⟨t343, A50, H⟩ := H
      replace H : (if t343 = true then (if x7_1 > 0 then (if 0 ≤ (wrap64 (x7_1 - 1)) then (if (wrap64 (x7_1 - 1)) < (l0.length : Int) then ((impl_Before.f ((rd_T61 l0 (wrap64 (x7_1 - 1))).f0) ((rd_T61 l0 (wrap64 (x7_1 - 1))).f1) ((rd_T61 l0 (wrap64 (x7_1 - 1))).f2) ((rd_T61 l0 (wrap64 (x7_1 - 1))).f3) ((rd_T61 l0 (wrap64 (x7_1 - 1))).f4) ((rd_T61 l0 (wrap64 (x7_1 - 1))).f5) ((rd_T61 l0 (wrap64 (x7_1 - 1))).f6) ((rd_T61 l0 (wrap64 (x7_1 - 1))).f7) ((rd_T61 l0 x7_1).f0) ((rd_T61 l0 x7_1).f1) ((rd_T61 l0 x7_1).f2) ((rd_T61 l0 x7_1).f3) ((rd_T61 l0 x7_1).f4) ((rd_T61 l0 x7_1).f5) ((rd_T61 l0 x7_1).f6) ((rd_T61 l0 x7_1).f7)).bind fun t345 => (if t345 = true then (impl_StoreOk.l0 k1 l0 l0 (l0.length : Int) (wrap64 (x7_1 + 1))) else (some false))) else (none)) else (none)) else (impl_StoreOk.l0 k1 l0 l0 (l0.length : Int) (wrap64 (x7_1 + 1)))) else (some false)) = some r := H
      have A5 := Aside0.mk A50
      clear A50
      have HZ9 := Aside0.mk H
      clear H
      have p341 : 0 ≤ (x7_1 : Int) := of_decide_eq_true as_q
      have q341 : x7_1 < (l0.length : Int) := of_decide_eq_true as_q
      obtain ⟨ad341, A341_5, c341_5, e341, hx341_0, hx341_1, hx341_2, hx341_3, hx341_4, hx341_5, hx341_6, hx341_7, hl341_5, hi341_5⟩ := at_T61 HR0.out x7_1 p341 q341
      cases e341
      replace hx341_0 := (HB.out.cell (World.block_lt_of_cell? w _ hx341_0)).trans hx341_0
      replace hx341_1 := (HB.out.cell (World.block_lt_of_cell? w _ hx341_1)).trans hx341_1
      replace hx341_2 := (HB.out.cell (World.block_lt_of_cell? w _ hx341_2)).trans hx341_2
      replace hx341_3 := (HB.out.cell (World.block_lt_of_cell? w _ hx341_3)).trans hx341_3
      replace hx341_4 := (HB.out.cell (World.block_lt_of_cell? w _ hx341_4)).trans hx341_4
      replace hx341_5 := (HB.out.cell (World.block_lt_of_cell? w _ hx341_5)).trans hx341_5
      replace hx341_6 := (HB.out.cell (World.block_lt_of_cell? w _ hx341_6)).trans hx341_6
      replace hx341_7 := (HB.out.cell (World.block_lt_of_cell? w _ hx341_7)).trans hx341_7
      have HR341_5 := Aside0.mk hi341_5
      have HC341_5 := Aside0.mk hl341_5
      clear hi341_5 hl341_5
      replace p341 := eq_true p341
      replace q341 := eq_true q341
      try go_wp2_with (first | ((with_reducible refine gate_dst (N := 4) rfl ?_); refine box_q 4 #[.int .i64 0, .int .i64 0, .int .i64 0, .int .i64 0, .int .i64 0, .slice none 0 0, .int .i64 0, .bool false] 61 ?_; intro gb342 hg w13 hbox hb; have BK342 := Aside0.mk (hbox); have GW342 := Aside0.mk ((by rw [hg]; exact (below_size (bw_q HB)) : w.heap.size ≤ gb342)); have GE342 := Aside0.mk ((by rw [hg]; exact (below_size (bw_q HB)) : w.heap.size ≤ gb342)); replace HB := Aside0.mk (below_step (bw_q HB) hb); clear hb hbox hg; have hcz14_0 : w13.cell? ⟨gb342, 0, none⟩ = some (.int .i64 0) := (blk_cell BK342.out 0).trans rfl; have hcz14_1 : w13.cell? ⟨gb342, 1, none⟩ = some (.int .i64 0) := (blk_cell BK342.out 1).trans rfl; have hcz14_2 : w13.cell? ⟨gb342, 2, none⟩ = some (.int .i64 0) := (blk_cell BK342.out 2).trans rfl; have hcz14_3 : w13.cell? ⟨gb342, 3, none⟩ = some (.int .i64 0) := (blk_cell BK342.out 3).trans rfl; have hcz14_4 : w13.cell? ⟨gb342, 4, none⟩ = some (.int .i64 0) := (blk_cell BK342.out 4).trans rfl; have hcz14_5 : w13.cell? ⟨gb342, 5, none⟩ = some (.slice none 0 0) := (blk_cell BK342.out 5).trans rfl; have hcz14_6 : w13.cell? ⟨gb342, 6, none⟩ = some (.int .i64 0) := (blk_cell BK342.out 6).trans rfl; have hcz14_7 : w13.cell? ⟨gb342, 7, none⟩ = some (.bool false) := (blk_cell BK342.out 7).trans rfl; have hfz14_0 := blk_frozen BK342.out 0; have hfz14_1 := blk_frozen BK342.out 1; have hfz14_2 := blk_frozen BK342.out 2; have hfz14_3 := blk_frozen BK342.out 3; have hfz14_4 := blk_frozen BK342.out 4; have hfz14_5 := blk_frozen BK342.out 5; have hfz14_6 := blk_frozen BK342.out 6; have hfz14_7 := blk_frozen BK342.out 7))
      have n0_ : Aside0 (((((((((w13.setCell ⟨gb342, 0, none⟩ (.int .i64 ((rd_T61 l0 x7_1).f0))).setCell ⟨gb342, 1, none⟩ (.int .i64 ((rd_T61 l0 x7_1).f1))).setCell ⟨gb342, 2, none⟩ (.int .i64 ((rd_T61 l0 x7_1).f2))).setCell ⟨gb342, 3, none⟩ (.int .i64 ((rd_T61 l0 x7_1).f3))).setCell ⟨gb342, 4, none⟩ (.int .i64 ((rd_T61 l0 x7_1).f4))).setCell ⟨gb342, 5, none⟩ (.slice A341_5 ((rd_T61 l0 x7_1).f5).length c341_5)).setCell ⟨gb342, 6, none⟩ (.int .i64 ((rd_T61 l0 x7_1).f6))).setCell ⟨gb342, 7, none⟩ (.bool ((rd_T61 l0 x7_1).f7))).heap[gb342]? = some (.cells #[.int .i64 ((rd_T61 l0 x7_1).f0), .int .i64 ((rd_T61 l0 x7_1).f1), .int .i64 ((rd_T61 l0 x7_1).f2), .int .i64 ((rd_T61 l0 x7_1).f3), .int .i64 ((rd_T61 l0 x7_1).f4), .slice A341_5 ((rd_T61 l0 x7_1).f5).length c341_5, .int .i64 ((rd_T61 l0 x7_1).f6), .bool ((rd_T61 l0 x7_1).f7)] 61 (0, 0))) := ⟨by refine bz_ ?_; refine blk_put (cs := #[.int .i64 ((rd_T61 l0 x7_1).f0), .int .i64 ((rd_T61 l0 x7_1).f1), .int .i64 ((rd_T61 l0 x7_1).f2), .int .i64 ((rd_T61 l0 x7_1).f3), .int .i64 ((rd_T61 l0 x7_1).f4), .slice A341_5 ((rd_T61 l0 x7_1).f5).length c341_5, .int .i64 ((rd_T61 l0 x7_1).f6), .bool false]) ?_ 7 _ rfl; refine bz_ ?_; refine blk_put (cs := #[.int .i64 ((rd_T61 l0 x7_1).f0), .int .i64 ((rd_T61 l0 x7_1).f1), .int .i64 ((rd_T61 l0 x7_1).f2), .int .i64 ((rd_T61 l0 x7_1).f3), .int .i64 ((rd_T61 l0 x7_1).f4), .slice A341_5 ((rd_T61 l0 x7_1).f5).length c341_5, .int .i64 0, .bool false]) ?_ 6 _ rfl; refine bz_ ?_; refine blk_put (cs := #[.int .i64 ((rd_T61 l0 x7_1).f0), .int .i64 ((rd_T61 l0 x7_1).f1), .int .i64 ((rd_T61 l0 x7_1).f2), .int .i64 ((rd_T61 l0 x7_1).f3), .int .i64 ((rd_T61 l0 x7_1).f4), .slice none 0 0, .int .i64 0, .bool false]) ?_ 5 _ rfl; refine bz_ ?_; refine blk_put (cs := #[.int .i64 ((rd_T61 l0 x7_1).f0), .int .i64 ((rd_T61 l0 x7_1).f1), .int .i64 ((rd_T61 l0 x7_1).f2), .int .i64 ((rd_T61 l0 x7_1).f3), .int .i64 0, .slice none 0 0, .int .i64 0, .bool false]) ?_ 4 _ rfl; refine bz_ ?_; refine blk_put (cs := #[.int .i64 ((rd_T61 l0 x7_1).f0), .int .i64 ((rd_T61 l0 x7_1).f1), .int .i64 ((rd_T61 l0 x7_1).f2), .int .i64 0, .int .i64 0, .slice none 0 0, .int .i64 0, .bool false]) ?_ 3 _ rfl; refine bz_ ?_; refine blk_put (cs := #[.int .i64 ((rd_T61 l0 x7_1).f0), .int .i64 ((rd_T61 l0 x7_1).f1), .int .i64 0, .int .i64 0, .int .i64 0, .slice none 0 0, .int .i64 0, .bool false]) ?_ 2 _ rfl; refine bz_ ?_; refine blk_put (cs := #[.int .i64 ((rd_T61 l0 x7_1).f0), .int .i64 0, .int .i64 0, .int .i64 0, .int .i64 0, .slice none 0 0, .int .i64 0, .bool false]) ?_ 1 _ rfl; refine bz_ ?_; refine blk_put (cs := #[.int .i64 0, .int .i64 0, .int .i64 0, .int .i64 0, .int .i64 0, .slice none 0 0, .int .i64 0, .bool false]) ?_ 0 _ rfl; refine bz_ ?_; exact BK342.out⟩
      have n1_ : Aside0 (Below w.heap.size w ((((((((w13.setCell ⟨gb342, 0, none⟩ (.int .i64 ((rd_T61 l0 x7_1).f0))).setCell ⟨gb342, 1, none⟩ (.int .i64 ((rd_T61 l0 x7_1).f1))).setCell ⟨gb342, 2, none⟩ (.int .i64 ((rd_T61 l0 x7_1).f2))).setCell ⟨gb342, 3, none⟩ (.int .i64 ((rd_T61 l0 x7_1).f3))).setCell ⟨gb342, 4, none⟩ (.int .i64 ((rd_T61 l0 x7_1).f4))).setCell ⟨gb342, 5, none⟩ (.slice A341_5 ((rd_T61 l0 x7_1).f5).length c341_5)).setCell ⟨gb342, 6, none⟩ (.int .i64 ((rd_T61 l0 x7_1).f6))).setCell ⟨gb342, 7, none⟩ (.bool ((rd_T61 l0 x7_1).f7)))) := ⟨bw_q HB⟩
      (try clear BK342)
      (try clear HB)
      generalize ((((((((w13.setCell ⟨gb342, 0, none⟩ (.int .i64 ((rd_T61 l0 x7_1).f0))).setCell ⟨gb342, 1, none⟩ (.int .i64 ((rd_T61 l0 x7_1).f1))).setCell ⟨gb342, 2, none⟩ (.int .i64 ((rd_T61 l0 x7_1).f2))).setCell ⟨gb342, 3, none⟩ (.int .i64 ((rd_T61 l0 x7_1).f3))).setCell ⟨gb342, 4, none⟩ (.int .i64 ((rd_T61 l0 x7_1).f4))).setCell ⟨gb342, 5, none⟩ (.slice A341_5 ((rd_T61 l0 x7_1).f5).length c341_5)).setCell ⟨gb342, 6, none⟩ (.int .i64 ((rd_T61 l0 x7_1).f6))).setCell ⟨gb342, 7, none⟩ (.bool ((rd_T61 l0 x7_1).f7))) = w15 at n0_ n1_ ⊢
      have BK342 := n0_
      have HB := n1_
      clear n0_ n1_
      replace BK342 := Aside0.mk (blk_drew BK342.out)
      replace HB := Aside0.mk (below_drew1 HB.out)
      refine start_ (n := 17) (S := fun w' => w'.cell? ⟨gb342, 0, none⟩ = some (.int .i64 ((rd_T61 l0 x7_1).f0)) ∧ w'.cell? ⟨gb342, 1, none⟩ = some (.int .i64 ((rd_T61 l0 x7_1).f1)) ∧ w'.cell? ⟨gb342, 2, none⟩ = some (.int .i64 ((rd_T61 l0 x7_1).f2)) ∧ w'.cell? ⟨gb342, 3, none⟩ = some (.int .i64 ((rd_T61 l0 x7_1).f3)) ∧ w'.cell? ⟨gb342, 4, none⟩ = some (.int .i64 ((rd_T61 l0 x7_1).f4)) ∧ w'.cell? ⟨gb342, 5, none⟩ = some (.slice A341_5 ((rd_T61 l0 x7_1).f5).length c341_5) ∧ w'.cell? ⟨gb342, 6, none⟩ = some (.int .i64 ((rd_T61 l0 x7_1).f6)) ∧ w'.cell? ⟨gb342, 7, none⟩ = some (.bool ((rd_T61 l0 x7_1).f7))) (ds := []) (bL 17 0) (by kernel_rfl) rfl rfl ⟨(blk_cell BK342.out 0).trans rfl, (blk_cell BK342.out 1).trans rfl, (blk_cell BK342.out 2).trans rfl, (blk_cell BK342.out 3).trans rfl, (blk_cell BK342.out 4).trans rfl, (blk_cell BK342.out 5).trans rfl, (blk_cell BK342.out 6).trans rfl, (blk_cell BK342.out 7).trans rfl⟩ (fun hHeld => ?_); refine with_tabW impl_StoreOk.tab4 impl_StoreOk.bits4 (fun HT_ HW_ => ?_)
      generalize w15.drew = w16 at BK342 HB hHeld ⊢
      refine take_ (i := 0) (N := some 12) (v := ?_) (a' := ?_) (bL 17 1) rfl rfl (take_ofW HT_.out HW_.out (by kernel_rfl)) (fun _ _ _ h => h) (Or.inl ⟨by rfl, ?_⟩) hHeld ?_ ?_; rotate_left; (rintro w' ⟨s0, s1, s2, s3, s4, s5, s6, s7⟩; go_simp; with_reducible rfl); rotate_left; (exact put_q)
      refine one_ (i := 1) (N := some 13) (bL 17 3) rfl rfl (one_of HT_.out (by kernel_rfl)) (by decide) (fun K hK => ?_)
      refine goes_ Try.func110 (by kernel_rfl) rfl #[.agg #[.int .i64 ((rd_T61 l0 x7_1).f0), .int .i64 ((rd_T61 l0 x7_1).f1), .int .i64 ((rd_T61 l0 x7_1).f2), .int .i64 ((rd_T61 l0 x7_1).f3), .int .i64 ((rd_T61 l0 x7_1).f4), .slice A341_5 ((rd_T61 l0 x7_1).f5).length c341_5, .int .i64 ((rd_T61 l0 x7_1).f6), .bool ((rd_T61 l0 x7_1).f7)]] (by rfl) rfl rfl mp_q ?_
      with_reducible refine (impl_RecordOk.calls k1 ((rd_T61 l0 x7_1).f0) ((rd_T61 l0 x7_1).f1) ((rd_T61 l0 x7_1).f2) ((rd_T61 l0 x7_1).f3) ((rd_T61 l0 x7_1).f4) _ _ ((rd_T61 l0 x7_1).f5) ((rd_T61 l0 x7_1).f6) ((rd_T61 l0 x7_1).f7) t343 _ ?side1 ?side2 A5.out).mono ?_
      (case side1 => exact cs_q (Kd.C_below HR341_5.out HB.out))
      (case side2 => exact HC341_5.out)
      rintro e w17 ⟨rfl, hb⟩
      refine ⟨_, rfl, ?_⟩
      replace BK342 := Aside0.mk (blk_below (g := gb342) (bk_q BK342) hb)
      replace HB := Aside0.mk (below_step (bw_q HB) hb)
      (try clear hb)
      (try clear hb2)
      (try clear hk)
      (try clear hi)
      refine hK.out _ _ ⟨(blk_cell BK342.out 0).trans rfl, (blk_cell BK342.out 1).trans rfl, (blk_cell BK342.out 2).trans rfl, (blk_cell BK342.out 3).trans rfl, (blk_cell BK342.out 4).trans rfl, (blk_cell BK342.out 5).trans rfl, (blk_cell BK342.out 6).trans rfl, (blk_cell BK342.out 7).trans rfl⟩ (fun hHeld => ?_)
      clear hK K
      refine norm_ (a' := ?_) ?_ ?_; rotate_left; (show Act.put _ (some 13) _ = _; simp only [Act.put, List.setIfInBounds_toArray, List.set_cons_zero, List.set_cons_succ, i64_w, i32_w]; rfl)
      refine pq_ 2 14 (bL 17 7) HT_.out rfl rfl ?_
      refine pq_ 3 15 (bL 17 15) HT_.out rfl rfl ?_
      have H := HZ9.out
      clear HZ9
      by_cases c6 : t343 = true
      ·subst c6
       have H1 : (if x7_1 > 0 then (if 0 ≤ (wrap64 (x7_1 - 1)) then (if (wrap64 (x7_1 - 1)) < (l0.length : Int) then ((impl_Before.f ((rd_T61 l0 (wrap64 (x7_1 - 1))).f0) ((rd_T61 l0 (wrap64 (x7_1 - 1))).f1) ((rd_T61 l0 (wrap64 (x7_1 - 1))).f2) ((rd_T61 l0 (wrap64 (x7_1 - 1))).f3) ((rd_T61 l0 (wrap64 (x7_1 - 1))).f4) ((rd_T61 l0 (wrap64 (x7_1 - 1))).f5) ((rd_T61 l0 (wrap64 (x7_1 - 1))).f6) ((rd_T61 l0 (wrap64 (x7_1 - 1))).f7) ((rd_T61 l0 x7_1).f0) ((rd_T61 l0 x7_1).f1) ((rd_T61 l0 x7_1).f2) ((rd_T61 l0 x7_1).f3) ((rd_T61 l0 x7_1).f4) ((rd_T61 l0 x7_1).f5) ((rd_T61 l0 x7_1).f6) ((rd_T61 l0 x7_1).f7)).bind fun t345 => (if t345 = true then (impl_StoreOk.l0 k1 l0 l0 (l0.length : Int) (wrap64 (x7_1 + 1))) else (some false))) else (none)) else (none)) else (impl_StoreOk.l0 k1 l0 l0 (l0.length : Int) (wrap64 (x7_1 + 1)))) = some r := by rw [if_pos rfl] at H; exact H
       clear H
       have H := H1
       clear H1
       have HZ10 := Aside0.mk H
       clear H
       refine pq_ 4 16 (bL 17 31) HT_.out rfl rfl ?_
       refine pq_ 5 17 (bL 17 63) HT_.out rfl rfl ?_
       refine pq_ 6 18 (bL 17 127) HT_.out rfl rfl ?_
       have H := HZ10.out
       clear HZ10
       by_cases c7 : x7_1 > 0
       ·rw [if_pos c7] at H
        have c7b0 : decide (0 < x7_1) = true := decide_eq_true c7
        (first | rw [c7b0] | (simp only [i64_w, i32_w]; first | rw [c7b0]) | skip)
        clear c7
        obtain ⟨ji8, hji8⟩ : ∃ j_ : Int, (wrap64 (x7_1 - 1)) = j_ := ⟨_, rfl⟩
        replace H : (if 0 ≤ (ji8) then (if (ji8) < (l0.length : Int) then ((impl_Before.f ((rd_T61 l0 (ji8)).f0) ((rd_T61 l0 (ji8)).f1) ((rd_T61 l0 (ji8)).f2) ((rd_T61 l0 (ji8)).f3) ((rd_T61 l0 (ji8)).f4) ((rd_T61 l0 (ji8)).f5) ((rd_T61 l0 (ji8)).f6) ((rd_T61 l0 (ji8)).f7) ((rd_T61 l0 x7_1).f0) ((rd_T61 l0 x7_1).f1) ((rd_T61 l0 x7_1).f2) ((rd_T61 l0 x7_1).f3) ((rd_T61 l0 x7_1).f4) ((rd_T61 l0 x7_1).f5) ((rd_T61 l0 x7_1).f6) ((rd_T61 l0 x7_1).f7)).bind fun t345 => (if t345 = true then (impl_StoreOk.l0 k1 l0 l0 (l0.length : Int) (wrap64 (x7_1 + 1))) else (some false))) else (none)) else (none)) = some r := by first | (rw [hji8] at H; exact H) | (simp only [hji8] at H ⊢; exact H)
        (try rw [hji8] at A5)
        have hji8w : (IntKind.i64.wrap (x7_1 - 1)) = ji8 := (i64_w _).trans hji8
        by_cases c9 : 0 ≤ (ji8)
        ·rw [if_pos c9] at H
         have c9b0 : decide (0 ≤ (ji8)) = true := decide_eq_true c9
         clear c9
         by_cases c10 : (ji8) < (l0.length : Int)
         ·rw [if_pos c10] at H
          have c10b0 : decide ((ji8) < (l0.length : Int)) = true := decide_eq_true c10
          clear c10
          replace H := Option.bind_eq_some_iff.mp H
          obtain ⟨t345, A110, H⟩ := H
          replace H : (if t345 = true then (impl_StoreOk.l0 k1 l0 l0 (l0.length : Int) (wrap64 (x7_1 + 1))) else (some false)) = some r := H
          have A11 := Aside0.mk A110
          clear A110
          have HZ11 := Aside0.mk H
          clear H
          have p344 : 0 ≤ ((ji8) : Int) := of_decide_eq_true as_q
          have q344 : (ji8) < (l0.length : Int) := of_decide_eq_true as_q
          obtain ⟨ad344, A344_5, c344_5, e344, hx344_0, hx344_1, hx344_2, hx344_3, hx344_4, hx344_5, hx344_6, hx344_7, hl344_5, hi344_5⟩ := at_T61 HR0.out (ji8) p344 q344
          have hw344_7 := hx344_7
          have hw344_6 := hx344_6
          have hw344_5 := hx344_5
          have hw344_4 := hx344_4
          have hw344_3 := hx344_3
          have hw344_2 := hx344_2
          have hw344_1 := hx344_1
          have hw344_0 := hx344_0
          obtain rfl : ad341 = ad344 := (by injection e344)
          replace hx344_0 := (HB.out.cell (World.block_lt_of_cell? w _ hx344_0)).trans hx344_0
          replace hx344_1 := (HB.out.cell (World.block_lt_of_cell? w _ hx344_1)).trans hx344_1
          replace hx344_2 := (HB.out.cell (World.block_lt_of_cell? w _ hx344_2)).trans hx344_2
          replace hx344_3 := (HB.out.cell (World.block_lt_of_cell? w _ hx344_3)).trans hx344_3
          replace hx344_4 := (HB.out.cell (World.block_lt_of_cell? w _ hx344_4)).trans hx344_4
          replace hx344_5 := (HB.out.cell (World.block_lt_of_cell? w _ hx344_5)).trans hx344_5
          replace hx344_6 := (HB.out.cell (World.block_lt_of_cell? w _ hx344_6)).trans hx344_6
          replace hx344_7 := (HB.out.cell (World.block_lt_of_cell? w _ hx344_7)).trans hx344_7
          have HR344_5 := Aside0.mk hi344_5
          have HC344_5 := Aside0.mk hl344_5
          clear hi344_5 hl344_5
          replace p344 := eq_true p344
          replace q344 := eq_true q344
          refine last_weaken (fun w' => w'.cell? ⟨gb342, 0, none⟩ = some (.int .i64 ((rd_T61 l0 x7_1).f0)) ∧ w'.cell? ⟨gb342, 1, none⟩ = some (.int .i64 ((rd_T61 l0 x7_1).f1)) ∧ w'.cell? ⟨gb342, 2, none⟩ = some (.int .i64 ((rd_T61 l0 x7_1).f2)) ∧ w'.cell? ⟨gb342, 3, none⟩ = some (.int .i64 ((rd_T61 l0 x7_1).f3)) ∧ w'.cell? ⟨gb342, 4, none⟩ = some (.int .i64 ((rd_T61 l0 x7_1).f4)) ∧ w'.cell? ⟨gb342, 5, none⟩ = some (.slice A341_5 ((rd_T61 l0 x7_1).f5).length c341_5) ∧ w'.cell? ⟨gb342, 6, none⟩ = some (.int .i64 ((rd_T61 l0 x7_1).f6)) ∧ w'.cell? ⟨gb342, 7, none⟩ = some (.bool ((rd_T61 l0 x7_1).f7)) ∧ w'.cell? (ad341.add (((ji8)).toNat * 8)) = some (.int .i64 ((rd_T61 l0 (ji8)).f0)) ∧ w'.cell? ⟨(ad341.add (((ji8)).toNat * 8)).block, (ad341.add (((ji8)).toNat * 8)).off + 1, none⟩ = some (.int .i64 ((rd_T61 l0 (ji8)).f1)) ∧ w'.cell? ⟨(ad341.add (((ji8)).toNat * 8)).block, (ad341.add (((ji8)).toNat * 8)).off + 2, none⟩ = some (.int .i64 ((rd_T61 l0 (ji8)).f2)) ∧ w'.cell? ⟨(ad341.add (((ji8)).toNat * 8)).block, (ad341.add (((ji8)).toNat * 8)).off + 3, none⟩ = some (.int .i64 ((rd_T61 l0 (ji8)).f3)) ∧ w'.cell? ⟨(ad341.add (((ji8)).toNat * 8)).block, (ad341.add (((ji8)).toNat * 8)).off + 4, none⟩ = some (.int .i64 ((rd_T61 l0 (ji8)).f4)) ∧ w'.cell? ⟨(ad341.add (((ji8)).toNat * 8)).block, (ad341.add (((ji8)).toNat * 8)).off + 5, none⟩ = some (.slice A344_5 ((rd_T61 l0 (ji8)).f5).length c344_5) ∧ w'.cell? ⟨(ad341.add (((ji8)).toNat * 8)).block, (ad341.add (((ji8)).toNat * 8)).off + 6, none⟩ = some (.int .i64 ((rd_T61 l0 (ji8)).f6)) ∧ w'.cell? ⟨(ad341.add (((ji8)).toNat * 8)).block, (ad341.add (((ji8)).toNat * 8)).off + 7, none⟩ = some (.bool ((rd_T61 l0 (ji8)).f7))) (fun w' h_ => ⟨h_.1, h_.2.1, h_.2.2.1, h_.2.2.2.1, h_.2.2.2.2.1, h_.2.2.2.2.2.1, h_.2.2.2.2.2.2.1, h_.2.2.2.2.2.2.2.1⟩) ⟨hHeld.1, hHeld.2.1, hHeld.2.2.1, hHeld.2.2.2.1, hHeld.2.2.2.2.1, hHeld.2.2.2.2.2.1, hHeld.2.2.2.2.2.2.1, hHeld.2.2.2.2.2.2.2, (by first | assumption | exact ((HB.out.cell (World.block_lt_of_cell? w _ hw344_0)).trans hw344_0)), (by first | assumption | exact ((HB.out.cell (World.block_lt_of_cell? w _ hw344_1)).trans hw344_1)), (by first | assumption | exact ((HB.out.cell (World.block_lt_of_cell? w _ hw344_2)).trans hw344_2)), (by first | assumption | exact ((HB.out.cell (World.block_lt_of_cell? w _ hw344_3)).trans hw344_3)), (by first | assumption | exact ((HB.out.cell (World.block_lt_of_cell? w _ hw344_4)).trans hw344_4)), (by first | assumption | exact ((HB.out.cell (World.block_lt_of_cell? w _ hw344_5)).trans hw344_5)), (by first | assumption | exact ((HB.out.cell (World.block_lt_of_cell? w _ hw344_6)).trans hw344_6)), (by first | assumption | exact ((HB.out.cell (World.block_lt_of_cell? w _ hw344_7)).trans hw344_7))⟩ (fun hHeld => ?_)
          refine pq_ 7 19 (bL 17 255) HT_.out rfl rfl ?_
          refine pq_ 8 20 (bL 17 511) HT_.out rfl rfl ?_
          refine pq_ 9 21 (bL 17 1023) HT_.out rfl rfl ?_
          refine pq_ 10 22 (bL 17 2047) HT_.out rfl rfl ?_
          refine take_ (i := 11) (N := some 23) (v := ?_) (a' := ?_) (bL 17 4095) rfl rfl (take_ofW HT_.out HW_.out (by kernel_rfl)) (fun _ _ _ h => h) (Or.inl ⟨by rfl, ?_⟩) hHeld ?_ ?_; rotate_left; (rintro w' ⟨s0, s1, s2, s3, s4, s5, s6, s7, s8, s9, s10, s11, s12, s13, s14, s15⟩; go_simp; with_reducible rfl); rotate_left; (exact put_q)
          refine take_ (i := 12) (N := some 24) (v := ?_) (a' := ?_) (bL 17 8191) rfl rfl (take_ofW HT_.out HW_.out (by kernel_rfl)) (fun _ _ _ h => h) (Or.inl ⟨by rfl, ?_⟩) hHeld ?_ ?_; rotate_left; (rintro w' ⟨s0, s1, s2, s3, s4, s5, s6, s7, s8, s9, s10, s11, s12, s13, s14, s15⟩; go_simp; with_reducible rfl); rotate_left; (exact put_q)
          refine one_ (i := 13) (N := some 25) (bL 17 16383) rfl rfl (one_of HT_.out (by kernel_rfl)) (by decide) (fun K hK => ?_)
          refine goes_ Try.func68 (by kernel_rfl) rfl #[.agg #[.int .i64 ((rd_T61 l0 (ji8)).f0), .int .i64 ((rd_T61 l0 (ji8)).f1), .int .i64 ((rd_T61 l0 (ji8)).f2), .int .i64 ((rd_T61 l0 (ji8)).f3), .int .i64 ((rd_T61 l0 (ji8)).f4), .slice A344_5 ((rd_T61 l0 (ji8)).f5).length c344_5, .int .i64 ((rd_T61 l0 (ji8)).f6), .bool ((rd_T61 l0 (ji8)).f7)], .agg #[.int .i64 ((rd_T61 l0 x7_1).f0), .int .i64 ((rd_T61 l0 x7_1).f1), .int .i64 ((rd_T61 l0 x7_1).f2), .int .i64 ((rd_T61 l0 x7_1).f3), .int .i64 ((rd_T61 l0 x7_1).f4), .slice A341_5 ((rd_T61 l0 x7_1).f5).length c341_5, .int .i64 ((rd_T61 l0 x7_1).f6), .bool ((rd_T61 l0 x7_1).f7)]] (by rfl) rfl rfl (by (try simp only [List.map_toArray, List.map_cons, List.map_nil]); first | done | (simp only [hji8]; rfl) | rfl | (simp only [List.length_drop, List.length_take]; rfl)) ?_
          with_reducible refine (impl_Before.calls ((rd_T61 l0 (ji8)).f0) ((rd_T61 l0 (ji8)).f1) ((rd_T61 l0 (ji8)).f2) ((rd_T61 l0 (ji8)).f3) ((rd_T61 l0 (ji8)).f4) _ _ ((rd_T61 l0 (ji8)).f5) ((rd_T61 l0 (ji8)).f6) ((rd_T61 l0 (ji8)).f7) ((rd_T61 l0 x7_1).f0) ((rd_T61 l0 x7_1).f1) ((rd_T61 l0 x7_1).f2) ((rd_T61 l0 x7_1).f3) ((rd_T61 l0 x7_1).f4) _ _ ((rd_T61 l0 x7_1).f5) ((rd_T61 l0 x7_1).f6) ((rd_T61 l0 x7_1).f7) t345 _ ?side1 ?side2 ?side3 ?side4 A11.out).mono ?_
          (case side1 => exact cs_q (Kd.C_below HR344_5.out HB.out))
          (case side2 => exact HC344_5.out)
          (case side3 => exact cs_q (Kd.C_below HR341_5.out HB.out))
          (case side4 => exact HC341_5.out)
          rintro e w18 ⟨rfl, hb⟩
          refine ⟨_, rfl, ?_⟩
          replace BK342 := Aside0.mk (blk_below (g := gb342) (bk_q BK342) hb)
          replace HB := Aside0.mk (below_step (bw_q HB) hb)
          (try clear hb)
          (try clear hb2)
          (try clear hk)
          (try clear hi)
          refine hK.out _ _ ⟨(blk_cell BK342.out 0).trans rfl, (blk_cell BK342.out 1).trans rfl, (blk_cell BK342.out 2).trans rfl, (blk_cell BK342.out 3).trans rfl, (blk_cell BK342.out 4).trans rfl, (blk_cell BK342.out 5).trans rfl, (blk_cell BK342.out 6).trans rfl, (blk_cell BK342.out 7).trans rfl, ((HB.out.cell (World.block_lt_of_cell? w _ hw344_0)).trans hw344_0), ((HB.out.cell (World.block_lt_of_cell? w _ hw344_1)).trans hw344_1), ((HB.out.cell (World.block_lt_of_cell? w _ hw344_2)).trans hw344_2), ((HB.out.cell (World.block_lt_of_cell? w _ hw344_3)).trans hw344_3), ((HB.out.cell (World.block_lt_of_cell? w _ hw344_4)).trans hw344_4), ((HB.out.cell (World.block_lt_of_cell? w _ hw344_5)).trans hw344_5), ((HB.out.cell (World.block_lt_of_cell? w _ hw344_6)).trans hw344_6), ((HB.out.cell (World.block_lt_of_cell? w _ hw344_7)).trans hw344_7)⟩ (fun hHeld => ?_)
          clear hK K
          refine norm_ (a' := ?_) ?_ ?_; rotate_left; (show Act.put _ (some 25) _ = _; simp only [Act.put, List.setIfInBounds_toArray, List.set_cons_zero, List.set_cons_succ, i64_w, i32_w]; rfl)
          refine pq_ 14 26 (bL 17 32767) HT_.out rfl rfl ?_
          refine pq_ 15 27 (bL 17 65535) HT_.out rfl rfl ?_
          refine pq_ 16 28 (bL 17 131071) HT_.out rfl rfl ?_
          have H := HZ11.out
          clear HZ11
          by_cases c12 : t345 = true
          ·subst c12
           have H1 : (impl_StoreOk.l0 k1 l0 l0 (l0.length : Int) (wrap64 (x7_1 + 1))) = some r := by rw [if_pos rfl] at H; exact H
           clear H
           have H := H1
           clear H1
           have H' := Aside0.mk H
           clear H
           refine done_ (done_of HT_.out (by kernel_rfl)) ?_
           try go_wp2
           go_roundg k1
           case measure => have := HK1.out; omega
           case rel => exact ⟨(wrap64 (x7_1 + 1)), (by first | rfl | (simp; done) | (simp [*]; done)), H', ⟨by have := HK1.out; omega⟩, ⟨bw_q HB⟩⟩
          ·replace c12 := Bool.eq_false_iff.mpr c12
           subst c12
           have H1 : (some false) = some r := by rw [if_neg (show ¬ (false = true) by decide)] at H; exact H
           clear H
           have H := H1
           clear H1
           obtain rfl := Option.some.inj H
           refine done_ (done_of HT_.out (by kernel_rfl)) ?_
           try go_wp2
           go_ret
           exact ⟨by first | rfl | (simp [errW_none, errW_some] <;> rfl) | (simp only [← hji8]; first | rfl | (simp [errW_none, errW_some] <;> rfl)) | (simp [*, errW_none, errW_some] <;> rfl), bw_q HB⟩
         ·rw [if_neg c10] at H
          exact absurd H (by simp)
        ·rw [if_neg c9] at H
         exact absurd H (by simp)
       ·rw [if_neg c7] at H
        have c7b0 : decide (0 < x7_1) = false := decide_eq_false c7
        (first | rw [c7b0] | (simp only [i64_w, i32_w]; first | rw [c7b0]) | skip)
        clear c7
        have H' := Aside0.mk H
        clear H
        refine pu_ 7 19 (bL 17 255) HT_.out rfl rfl ?_
        refine pu_ 8 20 (bL 17 511) HT_.out rfl rfl ?_
        refine pu_ 9 21 (bL 17 1023) HT_.out rfl rfl ?_
        refine pu_ 10 22 (bL 17 2047) HT_.out rfl rfl ?_
        refine pu_ 11 23 (bL 17 4095) HT_.out rfl rfl ?_
        refine pu_ 12 24 (bL 17 8191) HT_.out rfl rfl ?_
        refine pu_ 13 25 (bL 17 16383) HT_.out rfl rfl ?_
        refine pu_ 14 26 (bL 17 32767) HT_.out rfl rfl ?_
        refine pq_ 15 27 (bL 17 65535) HT_.out rfl rfl ?_
        refine pq_ 16 28 (bL 17 131071) HT_.out rfl rfl ?_
        refine done_ (done_of HT_.out (by kernel_rfl)) ?_
        try go_wp2
        go_roundg k1
        case measure => have := HK1.out; omega
        case rel => exact ⟨(wrap64 (x7_1 + 1)), (by first | rfl | (simp; done) | (simp [*]; done)), H', ⟨by have := HK1.out; omega⟩, ⟨bw_q HB⟩⟩
      ·replace c6 := Bool.eq_false_iff.mpr c6
       subst c6
       have H1 : (some false) = some r := by rw [if_neg (show ¬ (false = true) by decide)] at H; exact H
       clear H
       have H := H1
       clear H1
       obtain rfl := Option.some.inj H
       refine pu_ 4 16 (bL 17 31) HT_.out rfl rfl ?_
       refine pu_ 5 17 (bL 17 63) HT_.out rfl rfl ?_
       refine pu_ 6 18 (bL 17 127) HT_.out rfl rfl ?_
       refine pu_ 7 19 (bL 17 255) HT_.out rfl rfl ?_
       refine pu_ 8 20 (bL 17 511) HT_.out rfl rfl ?_
       refine pu_ 9 21 (bL 17 1023) HT_.out rfl rfl ?_
       refine pu_ 10 22 (bL 17 2047) HT_.out rfl rfl ?_
       refine pu_ 11 23 (bL 17 4095) HT_.out rfl rfl ?_
       refine pu_ 12 24 (bL 17 8191) HT_.out rfl rfl ?_
       refine pu_ 13 25 (bL 17 16383) HT_.out rfl rfl ?_
       refine pu_ 14 26 (bL 17 32767) HT_.out rfl rfl ?_
       refine pu_ 15 27 (bL 17 65535) HT_.out rfl rfl ?_
       refine pq_ 16 28 (bL 17 131071) HT_.out rfl rfl ?_
       refine done_ (done_of HT_.out (by kernel_rfl)) ?_
       try go_wp2
       go_ret
       exact ⟨er_q, bw_q HB⟩
     ·rw [if_neg c4] at H
      exact absurd H (by simp)
    ·rw [if_neg c3] at H
     exact absurd H (by simp)
   ·rw [if_neg c2] at H
    have c2b0 : decide (x7_1 < (l0.length : Int)) = false := decide_eq_false c2
    clear c2
    obtain rfl := Option.some.inj H
    go_wp2
    go_ret
    exact ⟨er_q, bw_q HB⟩

end Go.Proofs.Ythjmdiggglkeaaa.Q

/- A Go function as a Lean function, and its contract: for every input the Go code comes to what the Lean function tells. -/

namespace Go.Proofs.Ythjmdiggglkeaaa.Q
open Go.RowKit Go.Proofs.YthjmdiggglkeaaaW.PrintWords Go.Proofs.YthjmdiggglkeaaaW.PrintLast Go.Proofs.YthjmdiggglkeaaaW.PrintMore
attribute [local go_sem] max2_int min2_int max_two min_two max_three min_three max_four min_four   -- for this text's walks alone
set_option linter.unusedVariables false
set_option linter.unusedSimpArgs false

/-! ### spec_SameKey: function 52 -/
def spec_SameKey.f (a0_0 : Int) (a0_1 : Int) (a0_2 : Int) (a0_3 : Int) (a0_4 : Int) (l0_5 : List (S127)) (a0_6 : Int) (a0_7 : Bool) (a1_0 : Int) (a1_1 : Int) (a1_2 : Int) (a1_3 : Int) (a1_4 : Int) (l1_5 : List (S127)) (a1_6 : Int) (a1_7 : Bool) : Option (Bool) := if a0_0 = a1_0 then (if a0_1 = a1_1 then (if a0_2 = a1_2 then (some (a0_3 == a1_3)) else (some false)) else (some false)) else (some false)
set_option maxHeartbeats 8000000 in
set_option maxRecDepth 100000 in
theorem spec_SameKey.calls (a0_0 : Int) (a0_1 : Int) (a0_2 : Int) (a0_3 : Int) (a0_4 : Int) (A0_5 : Option Addr) (c0_5 : Nat) (l0_5 : List (S127)) (a0_6 : Int) (a0_7 : Bool) (a1_0 : Int) (a1_1 : Int) (a1_2 : Int) (a1_3 : Int) (a1_4 : Int) (A1_5 : Option Addr) (c1_5 : Nat) (l1_5 : List (S127)) (a1_6 : Int) (a1_7 : Bool) (r : Bool) (w : World) (hr0_5 : Kd.C k127 w A0_5 l0_5.length l0_5) (hc0_5 : l0_5.length ≤ c0_5) (hr1_5 : Kd.C k127 w A1_5 l1_5.length l1_5) (hc1_5 : l1_5.length ≤ c1_5) (h : spec_SameKey.f a0_0 a0_1 a0_2 a0_3 a0_4 l0_5 a0_6 a0_7 a1_0 a1_1 a1_2 a1_3 a1_4 l1_5 a1_6 a1_7 = some r) :
  Calls Try.prog 52 #[.agg #[.int .i64 a0_0, .int .i64 a0_1, .int .i64 a0_2, .int .i64 a0_3, .int .i64 a0_4, .slice A0_5 l0_5.length c0_5, .int .i64 a0_6, .bool a0_7], .agg #[.int .i64 a1_0, .int .i64 a1_1, .int .i64 a1_2, .int .i64 a1_3, .int .i64 a1_4, .slice A1_5 l1_5.length c1_5, .int .i64 a1_6, .bool a1_7]] w fun e w' => e = .returned (.bool r) ∧ Below w.heap.size w w' := by
 have hu61 := Try.underlying61
 have HR0_5 := Aside0.mk hr0_5
 have HC0_5 := Aside0.mk hc0_5
 clear hr0_5 hc0_5
 have HR1_5 := Aside0.mk hr1_5
 have HC1_5 := Aside0.mk hc1_5
 clear hr1_5 hc1_5
 have HB := Aside0.mk (Below.refl w.heap.size w)
 have H : (if a0_0 = a1_0 then (if a0_1 = a1_1 then (if a0_2 = a1_2 then (some (a0_3 == a1_3)) else (some false)) else (some false)) else (some false)) = some r := h
 clear h
 by_cases c3 : a0_0 = a1_0
 ·rw [if_pos c3] at H
  have c3b0 : (a0_0 == a1_0) = true := beq_iff_eq.mpr c3
  have c3b1 : (a0_0 != a1_0) = false := bne_eq_false_iff_eq.mpr c3
  clear c3
  by_cases c4 : a0_1 = a1_1
  ·rw [if_pos c4] at H
   have c4b0 : (a0_1 == a1_1) = true := beq_iff_eq.mpr c4
   have c4b1 : (a0_1 != a1_1) = false := bne_eq_false_iff_eq.mpr c4
   clear c4
   by_cases c5 : a0_2 = a1_2
   ·rw [if_pos c5] at H
    have c5b0 : (a0_2 == a1_2) = true := beq_iff_eq.mpr c5
    have c5b1 : (a0_2 != a1_2) = false := bne_eq_false_iff_eq.mpr c5
    clear c5
    obtain rfl := Option.some.inj H
    go_enter Try.func52, Try.ntmps52
    go_wp2_with (first | ((with_reducible refine gate_dst (N := 2) rfl ?_); refine box_q 2 #[.int .i64 a0_0, .int .i64 a0_1, .int .i64 a0_2, .int .i64 a0_3, .int .i64 a0_4, .slice A0_5 l0_5.length c0_5, .int .i64 a0_6, .bool a0_7] 61 ?_; intro gb479 hg w6 hbox hb; have BK479 := Aside0.mk (hbox); have GW479 := Aside0.mk ((by rw [hg]; exact (below_size (bw_q HB)) : w.heap.size ≤ gb479)); have GE479 := Aside0.mk ((by rw [hg]; exact (below_size (bw_q HB)) : w.heap.size ≤ gb479)); replace HB := Aside0.mk (below_step (bw_q HB) hb); clear hb hbox hg) | ((with_reducible refine gate_dst (N := 3) rfl ?_); refine box_q 3 #[.int .i64 a1_0, .int .i64 a1_1, .int .i64 a1_2, .int .i64 a1_3, .int .i64 a1_4, .slice A1_5 l1_5.length c1_5, .int .i64 a1_6, .bool a1_7] 61 ?_; intro gb480 hg w7 hbox hb; have BK480 := Aside0.mk (hbox); have GW480 := Aside0.mk ((by rw [hg]; exact (below_size (bw_q HB)) : w.heap.size ≤ gb480)); have GE480 := Aside0.mk ((by rw [hg]; exact (below_size (bw_q HB)) : w.heap.size ≤ gb480)); replace HB := Aside0.mk (below_step (bw_q HB) hb); have NB479_480 := Aside0.mk ((by rw [hg]; exact Nat.ne_of_lt (blk_lt (g := gb479) (o := .cells #[.int .i64 a0_0, .int .i64 a0_1, .int .i64 a0_2, .int .i64 a0_3, .int .i64 a0_4, .slice A0_5 l0_5.length c0_5, .int .i64 a0_6, .bool a0_7] 61 (0, 0)) (bk_q BK479)) : gb479 ≠ gb480)); have NB480_479 := Aside0.mk ((by rw [hg]; exact Nat.ne_of_gt (blk_lt (g := gb479) (o := .cells #[.int .i64 a0_0, .int .i64 a0_1, .int .i64 a0_2, .int .i64 a0_3, .int .i64 a0_4, .slice A0_5 l0_5.length c0_5, .int .i64 a0_6, .bool a0_7] 61 (0, 0)) (bk_q BK479)) : gb480 ≠ gb479)); replace BK479 := Aside0.mk (blk_below (g := gb479) (bk_q BK479) hb); clear hb hbox hg; have hnb8 := NB479_480.out; have hnc8 := NB480_479.out; have hcz9_0 : w7.cell? ⟨gb479, 0, none⟩ = some (.int .i64 a0_0) := (blk_cell BK479.out 0).trans rfl; have hcz9_1 : w7.cell? ⟨gb479, 1, none⟩ = some (.int .i64 a0_1) := (blk_cell BK479.out 1).trans rfl; have hcz9_2 : w7.cell? ⟨gb479, 2, none⟩ = some (.int .i64 a0_2) := (blk_cell BK479.out 2).trans rfl; have hcz9_3 : w7.cell? ⟨gb479, 3, none⟩ = some (.int .i64 a0_3) := (blk_cell BK479.out 3).trans rfl; have hcz9_4 : w7.cell? ⟨gb479, 4, none⟩ = some (.int .i64 a0_4) := (blk_cell BK479.out 4).trans rfl; have hcz9_5 : w7.cell? ⟨gb479, 5, none⟩ = some (.slice A0_5 l0_5.length c0_5) := (blk_cell BK479.out 5).trans rfl; have hcz9_6 : w7.cell? ⟨gb479, 6, none⟩ = some (.int .i64 a0_6) := (blk_cell BK479.out 6).trans rfl; have hcz9_7 : w7.cell? ⟨gb479, 7, none⟩ = some (.bool a0_7) := (blk_cell BK479.out 7).trans rfl; have hfz9_0 := blk_frozen BK479.out 0; have hfz9_1 := blk_frozen BK479.out 1; have hfz9_2 := blk_frozen BK479.out 2; have hfz9_3 := blk_frozen BK479.out 3; have hfz9_4 := blk_frozen BK479.out 4; have hfz9_5 := blk_frozen BK479.out 5; have hfz9_6 := blk_frozen BK479.out 6; have hfz9_7 := blk_frozen BK479.out 7; have hcz10_0 : w7.cell? ⟨gb480, 0, none⟩ = some (.int .i64 a1_0) := (blk_cell BK480.out 0).trans rfl; have hcz10_1 : w7.cell? ⟨gb480, 1, none⟩ = some (.int .i64 a1_1) := (blk_cell BK480.out 1).trans rfl; have hcz10_2 : w7.cell? ⟨gb480, 2, none⟩ = some (.int .i64 a1_2) := (blk_cell BK480.out 2).trans rfl; have hcz10_3 : w7.cell? ⟨gb480, 3, none⟩ = some (.int .i64 a1_3) := (blk_cell BK480.out 3).trans rfl; have hcz10_4 : w7.cell? ⟨gb480, 4, none⟩ = some (.int .i64 a1_4) := (blk_cell BK480.out 4).trans rfl; have hcz10_5 : w7.cell? ⟨gb480, 5, none⟩ = some (.slice A1_5 l1_5.length c1_5) := (blk_cell BK480.out 5).trans rfl; have hcz10_6 : w7.cell? ⟨gb480, 6, none⟩ = some (.int .i64 a1_6) := (blk_cell BK480.out 6).trans rfl; have hcz10_7 : w7.cell? ⟨gb480, 7, none⟩ = some (.bool a1_7) := (blk_cell BK480.out 7).trans rfl; have hfz10_0 := blk_frozen BK480.out 0; have hfz10_1 := blk_frozen BK480.out 1; have hfz10_2 := blk_frozen BK480.out 2; have hfz10_3 := blk_frozen BK480.out 3; have hfz10_4 := blk_frozen BK480.out 4; have hfz10_5 := blk_frozen BK480.out 5; have hfz10_6 := blk_frozen BK480.out 6; have hfz10_7 := blk_frozen BK480.out 7))
    go_ret
    exact ⟨er_q, bw_q HB⟩
   ·rw [if_neg c5] at H
    have c5b0 : (a0_2 == a1_2) = false := beq_eq_false_iff_ne.mpr c5
    have c5b1 : (a0_2 != a1_2) = true := bne_iff_ne.mpr c5
    obtain rfl := Option.some.inj H
    go_enter Try.func52, Try.ntmps52
    go_wp2_with (first | ((with_reducible refine gate_dst (N := 2) rfl ?_); refine box_q 2 #[.int .i64 a0_0, .int .i64 a0_1, .int .i64 a0_2, .int .i64 a0_3, .int .i64 a0_4, .slice A0_5 l0_5.length c0_5, .int .i64 a0_6, .bool a0_7] 61 ?_; intro gb479 hg w11 hbox hb; have BK479 := Aside0.mk (hbox); have GW479 := Aside0.mk ((by rw [hg]; exact (below_size (bw_q HB)) : w.heap.size ≤ gb479)); have GE479 := Aside0.mk ((by rw [hg]; exact (below_size (bw_q HB)) : w.heap.size ≤ gb479)); replace HB := Aside0.mk (below_step (bw_q HB) hb); clear hb hbox hg) | ((with_reducible refine gate_dst (N := 3) rfl ?_); refine box_q 3 #[.int .i64 a1_0, .int .i64 a1_1, .int .i64 a1_2, .int .i64 a1_3, .int .i64 a1_4, .slice A1_5 l1_5.length c1_5, .int .i64 a1_6, .bool a1_7] 61 ?_; intro gb480 hg w12 hbox hb; have BK480 := Aside0.mk (hbox); have GW480 := Aside0.mk ((by rw [hg]; exact (below_size (bw_q HB)) : w.heap.size ≤ gb480)); have GE480 := Aside0.mk ((by rw [hg]; exact (below_size (bw_q HB)) : w.heap.size ≤ gb480)); replace HB := Aside0.mk (below_step (bw_q HB) hb); have NB479_480 := Aside0.mk ((by rw [hg]; exact Nat.ne_of_lt (blk_lt (g := gb479) (o := .cells #[.int .i64 a0_0, .int .i64 a0_1, .int .i64 a0_2, .int .i64 a0_3, .int .i64 a0_4, .slice A0_5 l0_5.length c0_5, .int .i64 a0_6, .bool a0_7] 61 (0, 0)) (bk_q BK479)) : gb479 ≠ gb480)); have NB480_479 := Aside0.mk ((by rw [hg]; exact Nat.ne_of_gt (blk_lt (g := gb479) (o := .cells #[.int .i64 a0_0, .int .i64 a0_1, .int .i64 a0_2, .int .i64 a0_3, .int .i64 a0_4, .slice A0_5 l0_5.length c0_5, .int .i64 a0_6, .bool a0_7] 61 (0, 0)) (bk_q BK479)) : gb480 ≠ gb479)); replace BK479 := Aside0.mk (blk_below (g := gb479) (bk_q BK479) hb); clear hb hbox hg; have hnb13 := NB479_480.out; have hnc13 := NB480_479.out; have hcz14_0 : w12.cell? ⟨gb479, 0, none⟩ = some (.int .i64 a0_0) := (blk_cell BK479.out 0).trans rfl; have hcz14_1 : w12.cell? ⟨gb479, 1, none⟩ = some (.int .i64 a0_1) := (blk_cell BK479.out 1).trans rfl; have hcz14_2 : w12.cell? ⟨gb479, 2, none⟩ = some (.int .i64 a0_2) := (blk_cell BK479.out 2).trans rfl; have hcz14_3 : w12.cell? ⟨gb479, 3, none⟩ = some (.int .i64 a0_3) := (blk_cell BK479.out 3).trans rfl; have hcz14_4 : w12.cell? ⟨gb479, 4, none⟩ = some (.int .i64 a0_4) := (blk_cell BK479.out 4).trans rfl; have hcz14_5 : w12.cell? ⟨gb479, 5, none⟩ = some (.slice A0_5 l0_5.length c0_5) := (blk_cell BK479.out 5).trans rfl; have hcz14_6 : w12.cell? ⟨gb479, 6, none⟩ = some (.int .i64 a0_6) := (blk_cell BK479.out 6).trans rfl; have hcz14_7 : w12.cell? ⟨gb479, 7, none⟩ = some (.bool a0_7) := (blk_cell BK479.out 7).trans rfl; have hfz14_0 := blk_frozen BK479.out 0; have hfz14_1 := blk_frozen BK479.out 1; have hfz14_2 := blk_frozen BK479.out 2; have hfz14_3 := blk_frozen BK479.out 3; have hfz14_4 := blk_frozen BK479.out 4; have hfz14_5 := blk_frozen BK479.out 5; have hfz14_6 := blk_frozen BK479.out 6; have hfz14_7 := blk_frozen BK479.out 7; have hcz15_0 : w12.cell? ⟨gb480, 0, none⟩ = some (.int .i64 a1_0) := (blk_cell BK480.out 0).trans rfl; have hcz15_1 : w12.cell? ⟨gb480, 1, none⟩ = some (.int .i64 a1_1) := (blk_cell BK480.out 1).trans rfl; have hcz15_2 : w12.cell? ⟨gb480, 2, none⟩ = some (.int .i64 a1_2) := (blk_cell BK480.out 2).trans rfl; have hcz15_3 : w12.cell? ⟨gb480, 3, none⟩ = some (.int .i64 a1_3) := (blk_cell BK480.out 3).trans rfl; have hcz15_4 : w12.cell? ⟨gb480, 4, none⟩ = some (.int .i64 a1_4) := (blk_cell BK480.out 4).trans rfl; have hcz15_5 : w12.cell? ⟨gb480, 5, none⟩ = some (.slice A1_5 l1_5.length c1_5) := (blk_cell BK480.out 5).trans rfl; have hcz15_6 : w12.cell? ⟨gb480, 6, none⟩ = some (.int .i64 a1_6) := (blk_cell BK480.out 6).trans rfl; have hcz15_7 : w12.cell? ⟨gb480, 7, none⟩ = some (.bool a1_7) := (blk_cell BK480.out 7).trans rfl; have hfz15_0 := blk_frozen BK480.out 0; have hfz15_1 := blk_frozen BK480.out 1; have hfz15_2 := blk_frozen BK480.out 2; have hfz15_3 := blk_frozen BK480.out 3; have hfz15_4 := blk_frozen BK480.out 4; have hfz15_5 := blk_frozen BK480.out 5; have hfz15_6 := blk_frozen BK480.out 6; have hfz15_7 := blk_frozen BK480.out 7))
    go_ret
    exact ⟨er_q, bw_q HB⟩
  ·rw [if_neg c4] at H
   have c4b0 : (a0_1 == a1_1) = false := beq_eq_false_iff_ne.mpr c4
   have c4b1 : (a0_1 != a1_1) = true := bne_iff_ne.mpr c4
   obtain rfl := Option.some.inj H
   go_enter Try.func52, Try.ntmps52
   go_wp2_with (first | ((with_reducible refine gate_dst (N := 2) rfl ?_); refine box_q 2 #[.int .i64 a0_0, .int .i64 a0_1, .int .i64 a0_2, .int .i64 a0_3, .int .i64 a0_4, .slice A0_5 l0_5.length c0_5, .int .i64 a0_6, .bool a0_7] 61 ?_; intro gb479 hg w16 hbox hb; have BK479 := Aside0.mk (hbox); have GW479 := Aside0.mk ((by rw [hg]; exact (below_size (bw_q HB)) : w.heap.size ≤ gb479)); have GE479 := Aside0.mk ((by rw [hg]; exact (below_size (bw_q HB)) : w.heap.size ≤ gb479)); replace HB := Aside0.mk (below_step (bw_q HB) hb); clear hb hbox hg) | ((with_reducible refine gate_dst (N := 3) rfl ?_); refine box_q 3 #[.int .i64 a1_0, .int .i64 a1_1, .int .i64 a1_2, .int .i64 a1_3, .int .i64 a1_4, .slice A1_5 l1_5.length c1_5, .int .i64 a1_6, .bool a1_7] 61 ?_; intro gb480 hg w17 hbox hb; have BK480 := Aside0.mk (hbox); have GW480 := Aside0.mk ((by rw [hg]; exact (below_size (bw_q HB)) : w.heap.size ≤ gb480)); have GE480 := Aside0.mk ((by rw [hg]; exact (below_size (bw_q HB)) : w.heap.size ≤ gb480)); replace HB := Aside0.mk (below_step (bw_q HB) hb); have NB479_480 := Aside0.mk ((by rw [hg]; exact Nat.ne_of_lt (blk_lt (g := gb479) (o := .cells #[.int .i64 a0_0, .int .i64 a0_1, .int .i64 a0_2, .int .i64 a0_3, .int .i64 a0_4, .slice A0_5 l0_5.length c0_5, .int .i64 a0_6, .bool a0_7] 61 (0, 0)) (bk_q BK479)) : gb479 ≠ gb480)); have NB480_479 := Aside0.mk ((by rw [hg]; exact Nat.ne_of_gt (blk_lt (g := gb479) (o := .cells #[.int .i64 a0_0, .int .i64 a0_1, .int .i64 a0_2, .int .i64 a0_3, .int .i64 a0_4, .slice A0_5 l0_5.length c0_5, .int .i64 a0_6, .bool a0_7] 61 (0, 0)) (bk_q BK479)) : gb480 ≠ gb479)); replace BK479 := Aside0.mk (blk_below (g := gb479) (bk_q BK479) hb); clear hb hbox hg; have hnb18 := NB479_480.out; have hnc18 := NB480_479.out; have hcz19_0 : w17.cell? ⟨gb479, 0, none⟩ = some (.int .i64 a0_0) := (blk_cell BK479.out 0).trans rfl; have hcz19_1 : w17.cell? ⟨gb479, 1, none⟩ = some (.int .i64 a0_1) := (blk_cell BK479.out 1).trans rfl; have hcz19_2 : w17.cell? ⟨gb479, 2, none⟩ = some (.int .i64 a0_2) := (blk_cell BK479.out 2).trans rfl; have hcz19_3 : w17.cell? ⟨gb479, 3, none⟩ = some (.int .i64 a0_3) := (blk_cell BK479.out 3).trans rfl; have hcz19_4 : w17.cell? ⟨gb479, 4, none⟩ = some (.int .i64 a0_4) := (blk_cell BK479.out 4).trans rfl; have hcz19_5 : w17.cell? ⟨gb479, 5, none⟩ = some (.slice A0_5 l0_5.length c0_5) := (blk_cell BK479.out 5).trans rfl; have hcz19_6 : w17.cell? ⟨gb479, 6, none⟩ = some (.int .i64 a0_6) := (blk_cell BK479.out 6).trans rfl; have hcz19_7 : w17.cell? ⟨gb479, 7, none⟩ = some (.bool a0_7) := (blk_cell BK479.out 7).trans rfl; have hfz19_0 := blk_frozen BK479.out 0; have hfz19_1 := blk_frozen BK479.out 1; have hfz19_2 := blk_frozen BK479.out 2; have hfz19_3 := blk_frozen BK479.out 3; have hfz19_4 := blk_frozen BK479.out 4; have hfz19_5 := blk_frozen BK479.out 5; have hfz19_6 := blk_frozen BK479.out 6; have hfz19_7 := blk_frozen BK479.out 7; have hcz20_0 : w17.cell? ⟨gb480, 0, none⟩ = some (.int .i64 a1_0) := (blk_cell BK480.out 0).trans rfl; have hcz20_1 : w17.cell? ⟨gb480, 1, none⟩ = some (.int .i64 a1_1) := (blk_cell BK480.out 1).trans rfl; have hcz20_2 : w17.cell? ⟨gb480, 2, none⟩ = some (.int .i64 a1_2) := (blk_cell BK480.out 2).trans rfl; have hcz20_3 : w17.cell? ⟨gb480, 3, none⟩ = some (.int .i64 a1_3) := (blk_cell BK480.out 3).trans rfl; have hcz20_4 : w17.cell? ⟨gb480, 4, none⟩ = some (.int .i64 a1_4) := (blk_cell BK480.out 4).trans rfl; have hcz20_5 : w17.cell? ⟨gb480, 5, none⟩ = some (.slice A1_5 l1_5.length c1_5) := (blk_cell BK480.out 5).trans rfl; have hcz20_6 : w17.cell? ⟨gb480, 6, none⟩ = some (.int .i64 a1_6) := (blk_cell BK480.out 6).trans rfl; have hcz20_7 : w17.cell? ⟨gb480, 7, none⟩ = some (.bool a1_7) := (blk_cell BK480.out 7).trans rfl; have hfz20_0 := blk_frozen BK480.out 0; have hfz20_1 := blk_frozen BK480.out 1; have hfz20_2 := blk_frozen BK480.out 2; have hfz20_3 := blk_frozen BK480.out 3; have hfz20_4 := blk_frozen BK480.out 4; have hfz20_5 := blk_frozen BK480.out 5; have hfz20_6 := blk_frozen BK480.out 6; have hfz20_7 := blk_frozen BK480.out 7))
   go_ret
   exact ⟨er_q, bw_q HB⟩
 ·rw [if_neg c3] at H
  have c3b0 : (a0_0 == a1_0) = false := beq_eq_false_iff_ne.mpr c3
  have c3b1 : (a0_0 != a1_0) = true := bne_iff_ne.mpr c3
  obtain rfl := Option.some.inj H
  go_enter Try.func52, Try.ntmps52
  go_wp2_with (first | ((with_reducible refine gate_dst (N := 2) rfl ?_); refine box_q 2 #[.int .i64 a0_0, .int .i64 a0_1, .int .i64 a0_2, .int .i64 a0_3, .int .i64 a0_4, .slice A0_5 l0_5.length c0_5, .int .i64 a0_6, .bool a0_7] 61 ?_; intro gb479 hg w21 hbox hb; have BK479 := Aside0.mk (hbox); have GW479 := Aside0.mk ((by rw [hg]; exact (below_size (bw_q HB)) : w.heap.size ≤ gb479)); have GE479 := Aside0.mk ((by rw [hg]; exact (below_size (bw_q HB)) : w.heap.size ≤ gb479)); replace HB := Aside0.mk (below_step (bw_q HB) hb); clear hb hbox hg) | ((with_reducible refine gate_dst (N := 3) rfl ?_); refine box_q 3 #[.int .i64 a1_0, .int .i64 a1_1, .int .i64 a1_2, .int .i64 a1_3, .int .i64 a1_4, .slice A1_5 l1_5.length c1_5, .int .i64 a1_6, .bool a1_7] 61 ?_; intro gb480 hg w22 hbox hb; have BK480 := Aside0.mk (hbox); have GW480 := Aside0.mk ((by rw [hg]; exact (below_size (bw_q HB)) : w.heap.size ≤ gb480)); have GE480 := Aside0.mk ((by rw [hg]; exact (below_size (bw_q HB)) : w.heap.size ≤ gb480)); replace HB := Aside0.mk (below_step (bw_q HB) hb); have NB479_480 := Aside0.mk ((by rw [hg]; exact Nat.ne_of_lt (blk_lt (g := gb479) (o := .cells #[.int .i64 a0_0, .int .i64 a0_1, .int .i64 a0_2, .int .i64 a0_3, .int .i64 a0_4, .slice A0_5 l0_5.length c0_5, .int .i64 a0_6, .bool a0_7] 61 (0, 0)) (bk_q BK479)) : gb479 ≠ gb480)); have NB480_479 := Aside0.mk ((by rw [hg]; exact Nat.ne_of_gt (blk_lt (g := gb479) (o := .cells #[.int .i64 a0_0, .int .i64 a0_1, .int .i64 a0_2, .int .i64 a0_3, .int .i64 a0_4, .slice A0_5 l0_5.length c0_5, .int .i64 a0_6, .bool a0_7] 61 (0, 0)) (bk_q BK479)) : gb480 ≠ gb479)); replace BK479 := Aside0.mk (blk_below (g := gb479) (bk_q BK479) hb); clear hb hbox hg; have hnb23 := NB479_480.out; have hnc23 := NB480_479.out; have hcz24_0 : w22.cell? ⟨gb479, 0, none⟩ = some (.int .i64 a0_0) := (blk_cell BK479.out 0).trans rfl; have hcz24_1 : w22.cell? ⟨gb479, 1, none⟩ = some (.int .i64 a0_1) := (blk_cell BK479.out 1).trans rfl; have hcz24_2 : w22.cell? ⟨gb479, 2, none⟩ = some (.int .i64 a0_2) := (blk_cell BK479.out 2).trans rfl; have hcz24_3 : w22.cell? ⟨gb479, 3, none⟩ = some (.int .i64 a0_3) := (blk_cell BK479.out 3).trans rfl; have hcz24_4 : w22.cell? ⟨gb479, 4, none⟩ = some (.int .i64 a0_4) := (blk_cell BK479.out 4).trans rfl; have hcz24_5 : w22.cell? ⟨gb479, 5, none⟩ = some (.slice A0_5 l0_5.length c0_5) := (blk_cell BK479.out 5).trans rfl; have hcz24_6 : w22.cell? ⟨gb479, 6, none⟩ = some (.int .i64 a0_6) := (blk_cell BK479.out 6).trans rfl; have hcz24_7 : w22.cell? ⟨gb479, 7, none⟩ = some (.bool a0_7) := (blk_cell BK479.out 7).trans rfl; have hfz24_0 := blk_frozen BK479.out 0; have hfz24_1 := blk_frozen BK479.out 1; have hfz24_2 := blk_frozen BK479.out 2; have hfz24_3 := blk_frozen BK479.out 3; have hfz24_4 := blk_frozen BK479.out 4; have hfz24_5 := blk_frozen BK479.out 5; have hfz24_6 := blk_frozen BK479.out 6; have hfz24_7 := blk_frozen BK479.out 7; have hcz25_0 : w22.cell? ⟨gb480, 0, none⟩ = some (.int .i64 a1_0) := (blk_cell BK480.out 0).trans rfl; have hcz25_1 : w22.cell? ⟨gb480, 1, none⟩ = some (.int .i64 a1_1) := (blk_cell BK480.out 1).trans rfl; have hcz25_2 : w22.cell? ⟨gb480, 2, none⟩ = some (.int .i64 a1_2) := (blk_cell BK480.out 2).trans rfl; have hcz25_3 : w22.cell? ⟨gb480, 3, none⟩ = some (.int .i64 a1_3) := (blk_cell BK480.out 3).trans rfl; have hcz25_4 : w22.cell? ⟨gb480, 4, none⟩ = some (.int .i64 a1_4) := (blk_cell BK480.out 4).trans rfl; have hcz25_5 : w22.cell? ⟨gb480, 5, none⟩ = some (.slice A1_5 l1_5.length c1_5) := (blk_cell BK480.out 5).trans rfl; have hcz25_6 : w22.cell? ⟨gb480, 6, none⟩ = some (.int .i64 a1_6) := (blk_cell BK480.out 6).trans rfl; have hcz25_7 : w22.cell? ⟨gb480, 7, none⟩ = some (.bool a1_7) := (blk_cell BK480.out 7).trans rfl; have hfz25_0 := blk_frozen BK480.out 0; have hfz25_1 := blk_frozen BK480.out 1; have hfz25_2 := blk_frozen BK480.out 2; have hfz25_3 := blk_frozen BK480.out 3; have hfz25_4 := blk_frozen BK480.out 4; have hfz25_5 := blk_frozen BK480.out 5; have hfz25_6 := blk_frozen BK480.out 6; have hfz25_7 := blk_frozen BK480.out 7))
  go_ret
  exact ⟨er_q, bw_q HB⟩

end Go.Proofs.Ythjmdiggglkeaaa.Q
