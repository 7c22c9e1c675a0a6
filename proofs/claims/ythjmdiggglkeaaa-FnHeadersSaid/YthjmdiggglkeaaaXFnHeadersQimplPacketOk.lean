import Derived.Test.YthjmdiggglkeaaaXFnHeadersQspecScope
import Derived.Test.YthjmdiggglkeaaaXFnHeadersQimplRecordOk
import Derived.Test.YthjmdiggglkeaaaXFnHeadersQimplSameKey
import Derived.Test.YthjmdiggglkeaaaXFnHeadersQimplsumsOk
/- A Go function as a Lean function, and its contract: for every input the Go code comes to what the Lean function tells. -/





namespace Go.Proofs.Ythjmdiggglkeaaa.Q
open Go.RowKit Go.Proofs.YthjmdiggglkeaaaW.PrintWords Go.Proofs.YthjmdiggglkeaaaW.PrintLast Go.Proofs.YthjmdiggglkeaaaW.PrintMore
attribute [local go_sem] max2_int min2_int max_two min_two max_three min_three max_four min_four   -- for this text's walks alone
set_option linter.unusedVariables false
set_option linter.unusedSimpArgs false

/-! ### impl_PacketOk: function 59 -/
mutual
def impl_PacketOk.j0 : Nat → Bool → Int → Int → Int → Int → List Int → List (S61) → Option (Bool)
 | 0, _, _, _, _, _, _, _ => none
 | k + 1, x33, x1549000, x1549001, x1549002, x1549003, x1549004, x1549005 => if x33 = true then (some false) else (if x1549000 = 1 then ((impl_heardUp.f k x1549004).bind fun t1553 => (if t1553 = true then (some ((x1549005.length : Int) == 0)) else (some false))) else (impl_PacketOk.l0 k x1549005 (x1549005.length : Int) 0 x1549000 x1549001 x1549002 x1549003 x1549004 x1549005))
def impl_PacketOk.l0 : Nat → List (S61) → Int → Int → Int → Int → Int → Int → List Int → List (S61) → Option (Bool)
 | 0, _, _, _, _, _, _, _, _, _ => none
 | k + 1, x47, x48, x49, x1549000, x1549001, x1549002, x1549003, x1549004, x1549005 => if x49 < x48 then (if 0 ≤ x49 then (if x49 < (x47.length : Int) then (if ((rd_T61 x47 x49).f0) = x1549003 then (impl_PacketOk.l0 k x47 x48 (wrap64 (x49 + 1)) x1549000 x1549001 x1549002 x1549003 x1549004 x1549005) else (if ((rd_T61 x47 x49).f0) = 9 then (impl_PacketOk.l0 k x47 x48 (wrap64 (x49 + 1)) x1549000 x1549001 x1549002 x1549003 x1549004 x1549005) else (some false))) else (none)) else (none)) else (if (x1549004.length : Int) = 0 then ((impl_StoreOk.f k x1549005).bind fun t1556 => (if t1556 = true then (if x1549000 = 3 then (some true) else ((impl_sumsOk.f k x1549005).bind fun t1557 => (some t1557))) else (some false))) else (some false))
end
def impl_PacketOk.f (k : Nat) (a0_0 : Int) (a0_1 : Int) (a0_2 : Int) (a0_3 : Int) (l0_4 : List Int) (l0_5 : List (S61)) : Option (Bool) := (impl_in.f a0_0 1 3).bind fun t1549 => (if t1549 = true then ((impl_in.f a0_1 1 6).bind fun t1550 => (if t1550 = true then ((impl_in.f a0_2 1 6).bind fun t1551 => (if t1551 = true then (if a0_1 = a0_2 then (impl_PacketOk.j0 k true a0_0 a0_1 a0_2 a0_3 l0_4 l0_5) else ((impl_in.f a0_3 0 2).bind fun t1552 => (impl_PacketOk.j0 k (!t1552) a0_0 a0_1 a0_2 a0_3 l0_4 l0_5))) else (impl_PacketOk.j0 k true a0_0 a0_1 a0_2 a0_3 l0_4 l0_5))) else (impl_PacketOk.j0 k true a0_0 a0_1 a0_2 a0_3 l0_4 l0_5))) else (impl_PacketOk.j0 k true a0_0 a0_1 a0_2 a0_3 l0_4 l0_5))
theorem impl_PacketOk.mono_l : ∀ k, (∀ y0 y1 y2 y3 y4 y5 y6, LeO (impl_PacketOk.j0 k y0 y1 y2 y3 y4 y5 y6) (impl_PacketOk.j0 (k + 1) y0 y1 y2 y3 y4 y5 y6)) ∧ (∀ y0 y1 y2 y3 y4 y5 y6 y7 y8, LeO (impl_PacketOk.l0 k y0 y1 y2 y3 y4 y5 y6 y7 y8) (impl_PacketOk.l0 (k + 1) y0 y1 y2 y3 y4 y5 y6 y7 y8))
 | 0 => ⟨fun _ _ _ _ _ _ _ r h => by simp [impl_PacketOk.j0] at h, fun _ _ _ _ _ _ _ _ _ r h => by simp [impl_PacketOk.l0] at h⟩
 | k + 1 => by
  obtain ⟨ih0, ih1⟩ := impl_PacketOk.mono_l k
  refine ⟨?_, ?_⟩
  ·intro y0 y1 y2 y3 y4 y5 y6
   unfold impl_PacketOk.j0
   repeat' first
   | (with_reducible exact ih0 _ _ _ _ _ _ _)
   | (with_reducible exact ih1 _ _ _ _ _ _ _ _ _)
   | (with_reducible exact impl_StoreOk.mono _ _)
   | (with_reducible exact impl_heardUp.mono _ _)
   | (with_reducible exact impl_sumsOk.mono _ _)
   | (with_reducible exact LeO.refl _)
   | (with_reducible exact LeO.none _)
   | (with_reducible refine LeO.ite ?_ ?_)
   | (with_reducible refine LeO.bind ?_ (fun _ => ?_))
   | exact ih0 _ _ _ _ _ _ _
   | exact ih1 _ _ _ _ _ _ _ _ _
   | exact impl_StoreOk.mono _ _
   | exact impl_heardUp.mono _ _
   | exact impl_sumsOk.mono _ _
   | exact LeO.none _
   | refine LeO.ite ?_ ?_
   | refine LeO.bind ?_ (fun _ => ?_)
  ·intro y0 y1 y2 y3 y4 y5 y6 y7 y8
   unfold impl_PacketOk.l0
   repeat' first
   | (with_reducible exact ih0 _ _ _ _ _ _ _)
   | (with_reducible exact ih1 _ _ _ _ _ _ _ _ _)
   | (with_reducible exact impl_StoreOk.mono _ _)
   | (with_reducible exact impl_heardUp.mono _ _)
   | (with_reducible exact impl_sumsOk.mono _ _)
   | (with_reducible exact LeO.refl _)
   | (with_reducible exact LeO.none _)
   | (with_reducible refine LeO.ite ?_ ?_)
   | (with_reducible refine LeO.bind ?_ (fun _ => ?_))
   | exact ih0 _ _ _ _ _ _ _
   | exact ih1 _ _ _ _ _ _ _ _ _
   | exact impl_StoreOk.mono _ _
   | exact impl_heardUp.mono _ _
   | exact impl_sumsOk.mono _ _
   | exact LeO.none _
   | refine LeO.ite ?_ ?_
   | refine LeO.bind ?_ (fun _ => ?_)
theorem impl_PacketOk.mono : ∀ a0 a1 a2 a3 a4 a5 k, LeO (impl_PacketOk.f k a0 a1 a2 a3 a4 a5) (impl_PacketOk.f (k + 1) a0 a1 a2 a3 a4 a5) := by
 intro a0 a1 a2 a3 a4 a5 k
 obtain ⟨ih0, ih1⟩ := impl_PacketOk.mono_l k
 unfold impl_PacketOk.f
 repeat' first
   | (with_reducible exact ih0 _ _ _ _ _ _ _)
   | (with_reducible exact ih1 _ _ _ _ _ _ _ _ _)
   | (with_reducible exact impl_StoreOk.mono _ _)
   | (with_reducible exact impl_heardUp.mono _ _)
   | (with_reducible exact impl_sumsOk.mono _ _)
   | (with_reducible exact LeO.refl _)
   | (with_reducible exact LeO.none _)
   | (with_reducible refine LeO.ite ?_ ?_)
   | (with_reducible refine LeO.bind ?_ (fun _ => ?_))
   | exact ih0 _ _ _ _ _ _ _
   | exact ih1 _ _ _ _ _ _ _ _ _
   | exact impl_StoreOk.mono _ _
   | exact impl_heardUp.mono _ _
   | exact impl_sumsOk.mono _ _
   | exact LeO.none _
   | refine LeO.ite ?_ ?_
   | refine LeO.bind ?_ (fun _ => ?_)
set_option maxHeartbeats 8000000 in
set_option maxRecDepth 100000 in
theorem impl_PacketOk.calls (k : Nat) (a0_0 : Int) (a0_1 : Int) (a0_2 : Int) (a0_3 : Int) (A0_4 : Option Addr) (c0_4 : Nat) (l0_4 : List Int) (A0_5 : Option Addr) (c0_5 : Nat) (l0_5 : List (S61)) (r : Bool) (w : World) (hr0_4 : Kd.C (Kd.int .i64) w A0_4 l0_4.length l0_4) (hc0_4 : l0_4.length ≤ c0_4) (hr0_5 : Kd.C k61 w A0_5 l0_5.length l0_5) (hc0_5 : l0_5.length ≤ c0_5) (h : impl_PacketOk.f k a0_0 a0_1 a0_2 a0_3 l0_4 l0_5 = some r) :
  Calls Try.prog 59 #[.agg #[.int .i64 a0_0, .int .i64 a0_1, .int .i64 a0_2, .int .i64 a0_3, .slice A0_4 l0_4.length c0_4, .slice A0_5 l0_5.length c0_5]] w fun e w' => e = .returned (.bool r) ∧ Below w.heap.size w w' := by
 have hu83 := Try.underlying83
 have hu61 := Try.underlying61
 have HR0_4 := Aside0.mk hr0_4
 have HC0_4 := Aside0.mk hc0_4
 clear hr0_4 hc0_4
 have HR0_5 := Aside0.mk hr0_5
 have HC0_5 := Aside0.mk hc0_5
 clear hr0_5 hc0_5
 have HB := Aside0.mk (Below.refl w.heap.size w)
 have H : ((impl_in.f a0_0 1 3).bind fun t1549 => (if t1549 = true then ((impl_in.f a0_1 1 6).bind fun t1550 => (if t1550 = true then ((impl_in.f a0_2 1 6).bind fun t1551 => (if t1551 = true then (if a0_1 = a0_2 then (impl_PacketOk.j0 k true a0_0 a0_1 a0_2 a0_3 l0_4 l0_5) else ((impl_in.f a0_3 0 2).bind fun t1552 => (impl_PacketOk.j0 k (!t1552) a0_0 a0_1 a0_2 a0_3 l0_4 l0_5))) else (impl_PacketOk.j0 k true a0_0 a0_1 a0_2 a0_3 l0_4 l0_5))) else (impl_PacketOk.j0 k true a0_0 a0_1 a0_2 a0_3 l0_4 l0_5))) else (impl_PacketOk.j0 k true a0_0 a0_1 a0_2 a0_3 l0_4 l0_5))) = some r := h
 clear h
 have HC2 := Aside0.mk H
 clear H
 go_enter Try.func59, Try.ntmps59
 go_upto_region 1 with (first | ((with_reducible refine gate_dst (N := 1) rfl ?_); (try (refine gate_guard (by rfl) ?_; dsimp only)); refine box_q 1 #[.int .i64 a0_0, .int .i64 a0_1, .int .i64 a0_2, .int .i64 a0_3, .slice A0_4 l0_4.length c0_4, .slice A0_5 l0_5.length c0_5] 83 ?_; intro gb1548 hg w3 hbox hb; have BK1548 := Aside0.mk (hbox); have GW1548 := Aside0.mk ((by rw [hg]; exact (below_size (bw_q HB)) : w.heap.size ≤ gb1548)); have GE1548 := Aside0.mk ((by rw [hg]; exact (below_size (bw_q HB)) : w.heap.size ≤ gb1548)); replace HB := Aside0.mk (below_step (bw_q HB) hb); clear hb hbox hg))
 (try simp only [Act.put, List.setIfInBounds_toArray, List.set_cons_zero, List.set_cons_succ])
 go_cut [33] (fun v33 wc => ∃ (kq : Nat) (x33_1 : Bool), v33 = .bool x33_1 ∧ Aside0 (impl_PacketOk.j0 kq x33_1 a0_0 a0_1 a0_2 a0_3 l0_4 l0_5 = some r) ∧ Aside0 (kq ≤ k) ∧ Aside0 (wc.heap[gb1548]? = some (.cells #[.int .i64 a0_0, .int .i64 a0_1, .int .i64 a0_2, .int .i64 a0_3, (.slice A0_4 l0_4.length c0_4), (.slice A0_5 l0_5.length c0_5)] 83 (0, 0))) ∧ Aside0 (Below w.heap.size w wc))
 case first =>
  have H := HC2.out
  clear HC2
  replace H := Option.bind_eq_some_iff.mp H
  obtain ⟨t1549, A40, H⟩ := H
  replace H : (if t1549 = true then ((impl_in.f a0_1 1 6).bind fun t1550 => (if t1550 = true then ((impl_in.f a0_2 1 6).bind fun t1551 => (if t1551 = true then (if a0_1 = a0_2 then (impl_PacketOk.j0 k true a0_0 a0_1 a0_2 a0_3 l0_4 l0_5) else ((impl_in.f a0_3 0 2).bind fun t1552 => (impl_PacketOk.j0 k (!t1552) a0_0 a0_1 a0_2 a0_3 l0_4 l0_5))) else (impl_PacketOk.j0 k true a0_0 a0_1 a0_2 a0_3 l0_4 l0_5))) else (impl_PacketOk.j0 k true a0_0 a0_1 a0_2 a0_3 l0_4 l0_5))) else (impl_PacketOk.j0 k true a0_0 a0_1 a0_2 a0_3 l0_4 l0_5)) = some r := H
  have A4 := Aside0.mk A40
  clear A40
  by_cases c5 : t1549 = true
  ·subst c5
   have H1 : ((impl_in.f a0_1 1 6).bind fun t1550 => (if t1550 = true then ((impl_in.f a0_2 1 6).bind fun t1551 => (if t1551 = true then (if a0_1 = a0_2 then (impl_PacketOk.j0 k true a0_0 a0_1 a0_2 a0_3 l0_4 l0_5) else ((impl_in.f a0_3 0 2).bind fun t1552 => (impl_PacketOk.j0 k (!t1552) a0_0 a0_1 a0_2 a0_3 l0_4 l0_5))) else (impl_PacketOk.j0 k true a0_0 a0_1 a0_2 a0_3 l0_4 l0_5))) else (impl_PacketOk.j0 k true a0_0 a0_1 a0_2 a0_3 l0_4 l0_5))) = some r := by rw [if_pos rfl] at H; exact H
   clear H
   have H := H1
   clear H1
   replace H := Option.bind_eq_some_iff.mp H
   obtain ⟨t1550, A60, H⟩ := H
   replace H : (if t1550 = true then ((impl_in.f a0_2 1 6).bind fun t1551 => (if t1551 = true then (if a0_1 = a0_2 then (impl_PacketOk.j0 k true a0_0 a0_1 a0_2 a0_3 l0_4 l0_5) else ((impl_in.f a0_3 0 2).bind fun t1552 => (impl_PacketOk.j0 k (!t1552) a0_0 a0_1 a0_2 a0_3 l0_4 l0_5))) else (impl_PacketOk.j0 k true a0_0 a0_1 a0_2 a0_3 l0_4 l0_5))) else (impl_PacketOk.j0 k true a0_0 a0_1 a0_2 a0_3 l0_4 l0_5)) = some r := H
   have A6 := Aside0.mk A60
   clear A60
   by_cases c7 : t1550 = true
   ·subst c7
    have H1 : ((impl_in.f a0_2 1 6).bind fun t1551 => (if t1551 = true then (if a0_1 = a0_2 then (impl_PacketOk.j0 k true a0_0 a0_1 a0_2 a0_3 l0_4 l0_5) else ((impl_in.f a0_3 0 2).bind fun t1552 => (impl_PacketOk.j0 k (!t1552) a0_0 a0_1 a0_2 a0_3 l0_4 l0_5))) else (impl_PacketOk.j0 k true a0_0 a0_1 a0_2 a0_3 l0_4 l0_5))) = some r := by rw [if_pos rfl] at H; exact H
    clear H
    have H := H1
    clear H1
    replace H := Option.bind_eq_some_iff.mp H
    obtain ⟨t1551, A80, H⟩ := H
    replace H : (if t1551 = true then (if a0_1 = a0_2 then (impl_PacketOk.j0 k true a0_0 a0_1 a0_2 a0_3 l0_4 l0_5) else ((impl_in.f a0_3 0 2).bind fun t1552 => (impl_PacketOk.j0 k (!t1552) a0_0 a0_1 a0_2 a0_3 l0_4 l0_5))) else (impl_PacketOk.j0 k true a0_0 a0_1 a0_2 a0_3 l0_4 l0_5)) = some r := H
    have A8 := Aside0.mk A80
    clear A80
    by_cases c9 : t1551 = true
    ·subst c9
     have H1 : (if a0_1 = a0_2 then (impl_PacketOk.j0 k true a0_0 a0_1 a0_2 a0_3 l0_4 l0_5) else ((impl_in.f a0_3 0 2).bind fun t1552 => (impl_PacketOk.j0 k (!t1552) a0_0 a0_1 a0_2 a0_3 l0_4 l0_5))) = some r := by rw [if_pos rfl] at H; exact H
     clear H
     have H := H1
     clear H1
     by_cases c10 : a0_1 = a0_2
     ·rw [if_pos c10] at H
      have c10b0 : (a0_1 == a0_2) = true := beq_iff_eq.mpr c10
      have c10b1 : (a0_1 != a0_2) = false := bne_eq_false_iff_eq.mpr c10
      clear c10
      (first | rw [c10b0] | rw [c10b1] | (simp only [i64_w, i32_w]; first | rw [c10b0] | rw [c10b1]) | skip)
      have H' := Aside0.mk H
      clear H
      have hcz11_0 : w3.cell? ⟨gb1548, 0, none⟩ = some (.int .i64 a0_0) := (blk_cell BK1548.out 0).trans rfl
      have hcz11_1 : w3.cell? ⟨gb1548, 1, none⟩ = some (.int .i64 a0_1) := (blk_cell BK1548.out 1).trans rfl
      have hcz11_2 : w3.cell? ⟨gb1548, 2, none⟩ = some (.int .i64 a0_2) := (blk_cell BK1548.out 2).trans rfl
      have hcz11_3 : w3.cell? ⟨gb1548, 3, none⟩ = some (.int .i64 a0_3) := (blk_cell BK1548.out 3).trans rfl
      have hcz11_4 : w3.cell? ⟨gb1548, 4, none⟩ = some (.slice A0_4 l0_4.length c0_4) := (blk_cell BK1548.out 4).trans rfl
      have hcz11_5 : w3.cell? ⟨gb1548, 5, none⟩ = some (.slice A0_5 l0_5.length c0_5) := (blk_cell BK1548.out 5).trans rfl
      have hfz11_0 := blk_frozen BK1548.out 0
      have hfz11_1 := blk_frozen BK1548.out 1
      have hfz11_2 := blk_frozen BK1548.out 2
      have hfz11_3 := blk_frozen BK1548.out 3
      have hfz11_4 := blk_frozen BK1548.out 4
      have hfz11_5 := blk_frozen BK1548.out 5
      go_wp2_with (first | ((with_reducible refine gate_callee (f := 81) rfl ?_); refine goesL_ (some 7) rfl rfl Try.func81 (by kernel_rfl) rfl #[.int .i64 a0_0, .int .i64 1, .int .i64 3] rfl mp_q ?_; (with_reducible refine (impl_in.calls a0_0 1 3 true _ A4.out).mono ?_); rintro e w' ⟨rfl, ⟨nd, rfl⟩⟩; refine ⟨_, rfl, ?_⟩) | (go_at_call 81; (with_reducible refine (impl_in.calls a0_1 1 6 true _ A6.out).mono ?_); rintro e w' ⟨rfl, ⟨nd, rfl⟩⟩) | (go_at_call 81; (with_reducible refine (impl_in.calls a0_2 1 6 true _ A8.out).mono ?_); rintro e w' ⟨rfl, ⟨nd, rfl⟩⟩))
      go_meet
      case rel => exact ⟨_, (true), (by first | rfl | (simp; done) | (simp [*]; done)), H', ⟨by first | omega | exact Nat.le_refl _⟩, ⟨by refine bz_ ?_; exact BK1548.out⟩, ⟨bw_q HB⟩⟩
     ·rw [if_neg c10] at H
      have c10b0 : (a0_1 == a0_2) = false := beq_eq_false_iff_ne.mpr c10
      have c10b1 : (a0_1 != a0_2) = true := bne_iff_ne.mpr c10
      (first | rw [c10b0] | rw [c10b1] | (simp only [i64_w, i32_w]; first | rw [c10b0] | rw [c10b1]) | skip)
      replace H := Option.bind_eq_some_iff.mp H
      obtain ⟨t1552, A120, H⟩ := H
      replace H : (impl_PacketOk.j0 k (!t1552) a0_0 a0_1 a0_2 a0_3 l0_4 l0_5) = some r := H
      have A12 := Aside0.mk A120
      clear A120
      have H' := Aside0.mk H
      clear H
      have hcz13_0 : w3.cell? ⟨gb1548, 0, none⟩ = some (.int .i64 a0_0) := (blk_cell BK1548.out 0).trans rfl
      have hcz13_1 : w3.cell? ⟨gb1548, 1, none⟩ = some (.int .i64 a0_1) := (blk_cell BK1548.out 1).trans rfl
      have hcz13_2 : w3.cell? ⟨gb1548, 2, none⟩ = some (.int .i64 a0_2) := (blk_cell BK1548.out 2).trans rfl
      have hcz13_3 : w3.cell? ⟨gb1548, 3, none⟩ = some (.int .i64 a0_3) := (blk_cell BK1548.out 3).trans rfl
      have hcz13_4 : w3.cell? ⟨gb1548, 4, none⟩ = some (.slice A0_4 l0_4.length c0_4) := (blk_cell BK1548.out 4).trans rfl
      have hcz13_5 : w3.cell? ⟨gb1548, 5, none⟩ = some (.slice A0_5 l0_5.length c0_5) := (blk_cell BK1548.out 5).trans rfl
      have hfz13_0 := blk_frozen BK1548.out 0
      have hfz13_1 := blk_frozen BK1548.out 1
      have hfz13_2 := blk_frozen BK1548.out 2
      have hfz13_3 := blk_frozen BK1548.out 3
      have hfz13_4 := blk_frozen BK1548.out 4
      have hfz13_5 := blk_frozen BK1548.out 5
      go_wp2_with (first | ((with_reducible refine gate_callee (f := 81) rfl ?_); refine goesL_ (some 7) rfl rfl Try.func81 (by kernel_rfl) rfl #[.int .i64 a0_0, .int .i64 1, .int .i64 3] rfl mp_q ?_; (with_reducible refine (impl_in.calls a0_0 1 3 true _ A4.out).mono ?_); rintro e w' ⟨rfl, ⟨nd, rfl⟩⟩; refine ⟨_, rfl, ?_⟩) | (go_at_call 81; (with_reducible refine (impl_in.calls a0_1 1 6 true _ A6.out).mono ?_); rintro e w' ⟨rfl, ⟨nd, rfl⟩⟩) | (go_at_call 81; (with_reducible refine (impl_in.calls a0_2 1 6 true _ A8.out).mono ?_); rintro e w' ⟨rfl, ⟨nd, rfl⟩⟩) | (go_at_call 81; (with_reducible refine (impl_in.calls a0_3 0 2 t1552 _ A12.out).mono ?_); rintro e w' ⟨rfl, ⟨nd, rfl⟩⟩))
      go_meet
      case rel => exact ⟨_, (!t1552), (by first | rfl | (simp; done) | (simp [*]; done)), H', ⟨by first | omega | exact Nat.le_refl _⟩, ⟨by refine bz_ ?_; exact BK1548.out⟩, ⟨bw_q HB⟩⟩
    ·replace c9 := Bool.eq_false_iff.mpr c9
     subst c9
     have H1 : (impl_PacketOk.j0 k true a0_0 a0_1 a0_2 a0_3 l0_4 l0_5) = some r := by rw [if_neg (show ¬ (false = true) by decide)] at H; exact H
     clear H
     have H := H1
     clear H1
     have H' := Aside0.mk H
     clear H
     have hcz14_0 : w3.cell? ⟨gb1548, 0, none⟩ = some (.int .i64 a0_0) := (blk_cell BK1548.out 0).trans rfl
     have hcz14_1 : w3.cell? ⟨gb1548, 1, none⟩ = some (.int .i64 a0_1) := (blk_cell BK1548.out 1).trans rfl
     have hcz14_2 : w3.cell? ⟨gb1548, 2, none⟩ = some (.int .i64 a0_2) := (blk_cell BK1548.out 2).trans rfl
     have hcz14_3 : w3.cell? ⟨gb1548, 3, none⟩ = some (.int .i64 a0_3) := (blk_cell BK1548.out 3).trans rfl
     have hcz14_4 : w3.cell? ⟨gb1548, 4, none⟩ = some (.slice A0_4 l0_4.length c0_4) := (blk_cell BK1548.out 4).trans rfl
     have hcz14_5 : w3.cell? ⟨gb1548, 5, none⟩ = some (.slice A0_5 l0_5.length c0_5) := (blk_cell BK1548.out 5).trans rfl
     have hfz14_0 := blk_frozen BK1548.out 0
     have hfz14_1 := blk_frozen BK1548.out 1
     have hfz14_2 := blk_frozen BK1548.out 2
     have hfz14_3 := blk_frozen BK1548.out 3
     have hfz14_4 := blk_frozen BK1548.out 4
     have hfz14_5 := blk_frozen BK1548.out 5
     go_wp2_with (first | ((with_reducible refine gate_callee (f := 81) rfl ?_); refine goesL_ (some 7) rfl rfl Try.func81 (by kernel_rfl) rfl #[.int .i64 a0_0, .int .i64 1, .int .i64 3] rfl mp_q ?_; (with_reducible refine (impl_in.calls a0_0 1 3 true _ A4.out).mono ?_); rintro e w' ⟨rfl, ⟨nd, rfl⟩⟩; refine ⟨_, rfl, ?_⟩) | (go_at_call 81; (with_reducible refine (impl_in.calls a0_1 1 6 true _ A6.out).mono ?_); rintro e w' ⟨rfl, ⟨nd, rfl⟩⟩) | (go_at_call 81; (with_reducible refine (impl_in.calls a0_2 1 6 false _ A8.out).mono ?_); rintro e w' ⟨rfl, ⟨nd, rfl⟩⟩))
     go_meet
     case rel => exact ⟨_, (true), (by first | rfl | (simp; done) | (simp [*]; done)), H', ⟨by first | omega | exact Nat.le_refl _⟩, ⟨by refine bz_ ?_; exact BK1548.out⟩, ⟨bw_q HB⟩⟩
   ·replace c7 := Bool.eq_false_iff.mpr c7
    subst c7
    have H1 : (impl_PacketOk.j0 k true a0_0 a0_1 a0_2 a0_3 l0_4 l0_5) = some r := by rw [if_neg (show ¬ (false = true) by decide)] at H; exact H
    clear H
    have H := H1
    clear H1
    have H' := Aside0.mk H
    clear H
    have hcz15_0 : w3.cell? ⟨gb1548, 0, none⟩ = some (.int .i64 a0_0) := (blk_cell BK1548.out 0).trans rfl
    have hcz15_1 : w3.cell? ⟨gb1548, 1, none⟩ = some (.int .i64 a0_1) := (blk_cell BK1548.out 1).trans rfl
    have hcz15_2 : w3.cell? ⟨gb1548, 2, none⟩ = some (.int .i64 a0_2) := (blk_cell BK1548.out 2).trans rfl
    have hcz15_3 : w3.cell? ⟨gb1548, 3, none⟩ = some (.int .i64 a0_3) := (blk_cell BK1548.out 3).trans rfl
    have hcz15_4 : w3.cell? ⟨gb1548, 4, none⟩ = some (.slice A0_4 l0_4.length c0_4) := (blk_cell BK1548.out 4).trans rfl
    have hcz15_5 : w3.cell? ⟨gb1548, 5, none⟩ = some (.slice A0_5 l0_5.length c0_5) := (blk_cell BK1548.out 5).trans rfl
    have hfz15_0 := blk_frozen BK1548.out 0
    have hfz15_1 := blk_frozen BK1548.out 1
    have hfz15_2 := blk_frozen BK1548.out 2
    have hfz15_3 := blk_frozen BK1548.out 3
    have hfz15_4 := blk_frozen BK1548.out 4
    have hfz15_5 := blk_frozen BK1548.out 5
    go_wp2_with (first | ((with_reducible refine gate_callee (f := 81) rfl ?_); refine goesL_ (some 7) rfl rfl Try.func81 (by kernel_rfl) rfl #[.int .i64 a0_0, .int .i64 1, .int .i64 3] rfl mp_q ?_; (with_reducible refine (impl_in.calls a0_0 1 3 true _ A4.out).mono ?_); rintro e w' ⟨rfl, ⟨nd, rfl⟩⟩; refine ⟨_, rfl, ?_⟩) | (go_at_call 81; (with_reducible refine (impl_in.calls a0_1 1 6 false _ A6.out).mono ?_); rintro e w' ⟨rfl, ⟨nd, rfl⟩⟩))
    go_meet
    case rel => exact ⟨_, (true), (by first | rfl | (simp; done) | (simp [*]; done)), H', ⟨by first | omega | exact Nat.le_refl _⟩, ⟨by refine bz_ ?_; exact BK1548.out⟩, ⟨bw_q HB⟩⟩
  ·replace c5 := Bool.eq_false_iff.mpr c5
   subst c5
   have H1 : (impl_PacketOk.j0 k true a0_0 a0_1 a0_2 a0_3 l0_4 l0_5) = some r := by rw [if_neg (show ¬ (false = true) by decide)] at H; exact H
   clear H
   have H := H1
   clear H1
   have H' := Aside0.mk H
   clear H
   have hcz16_0 : w3.cell? ⟨gb1548, 0, none⟩ = some (.int .i64 a0_0) := (blk_cell BK1548.out 0).trans rfl
   have hcz16_1 : w3.cell? ⟨gb1548, 1, none⟩ = some (.int .i64 a0_1) := (blk_cell BK1548.out 1).trans rfl
   have hcz16_2 : w3.cell? ⟨gb1548, 2, none⟩ = some (.int .i64 a0_2) := (blk_cell BK1548.out 2).trans rfl
   have hcz16_3 : w3.cell? ⟨gb1548, 3, none⟩ = some (.int .i64 a0_3) := (blk_cell BK1548.out 3).trans rfl
   have hcz16_4 : w3.cell? ⟨gb1548, 4, none⟩ = some (.slice A0_4 l0_4.length c0_4) := (blk_cell BK1548.out 4).trans rfl
   have hcz16_5 : w3.cell? ⟨gb1548, 5, none⟩ = some (.slice A0_5 l0_5.length c0_5) := (blk_cell BK1548.out 5).trans rfl
   have hfz16_0 := blk_frozen BK1548.out 0
   have hfz16_1 := blk_frozen BK1548.out 1
   have hfz16_2 := blk_frozen BK1548.out 2
   have hfz16_3 := blk_frozen BK1548.out 3
   have hfz16_4 := blk_frozen BK1548.out 4
   have hfz16_5 := blk_frozen BK1548.out 5
   go_wp2_with (first | ((with_reducible refine gate_callee (f := 81) rfl ?_); refine goesL_ (some 7) rfl rfl Try.func81 (by kernel_rfl) rfl #[.int .i64 a0_0, .int .i64 1, .int .i64 3] rfl mp_q ?_; (with_reducible refine (impl_in.calls a0_0 1 3 false _ A4.out).mono ?_); rintro e w' ⟨rfl, ⟨nd, rfl⟩⟩; refine ⟨_, rfl, ?_⟩))
   go_meet
   case rel => exact ⟨_, (true), (by first | rfl | (simp; done) | (simp [*]; done)), H', ⟨by first | omega | exact Nat.le_refl _⟩, ⟨by refine bz_ ?_; exact BK1548.out⟩, ⟨bw_q HB⟩⟩
 case rest =>
  clear HC2
  try clear c1
  try clear p2
  try clear c5
  try clear c7
  try clear c8
  try clear c9
  try clear c10
  try clear c10b0
  try clear c10b1
  try clear hcz11_0
  try clear hcz11_1
  try clear hcz11_2
  try clear hcz11_3
  try clear hcz11_4
  try clear hcz11_5
  try clear hcz13_0
  try clear hcz13_1
  try clear hcz13_2
  try clear hcz13_3
  try clear hcz13_4
  try clear hcz13_5
  try clear hcz14_0
  try clear hcz14_1
  try clear hcz14_2
  try clear hcz14_3
  try clear hcz14_4
  try clear hcz14_5
  try clear hcz15_0
  try clear hcz15_1
  try clear hcz15_2
  try clear hcz15_3
  try clear hcz15_4
  try clear hcz15_5
  try clear hcz16_0
  try clear hcz16_1
  try clear hcz16_2
  try clear hcz16_3
  try clear hcz16_4
  try clear hcz16_5
  try clear hfz11_0
  try clear hfz11_1
  try clear hfz11_2
  try clear hfz11_3
  try clear hfz11_4
  try clear hfz11_5
  try clear hfz13_0
  try clear hfz13_1
  try clear hfz13_2
  try clear hfz13_3
  try clear hfz13_4
  try clear hfz13_5
  try clear hfz14_0
  try clear hfz14_1
  try clear hfz14_2
  try clear hfz14_3
  try clear hfz14_4
  try clear hfz14_5
  try clear hfz15_0
  try clear hfz15_1
  try clear hfz15_2
  try clear hfz15_3
  try clear hfz15_4
  try clear hfz15_5
  try clear hfz16_0
  try clear hfz16_1
  try clear hfz16_2
  try clear hfz16_3
  try clear hfz16_4
  try clear hfz16_5
  obtain ⟨kq, x33_1, rfl, HA, HJ1, BK1548, HB⟩ := hcut
  cases kq with
  | zero => exact absurd HA.out (by simp [impl_PacketOk.j0])
  | succ kj1 =>
   have H := HA.out
   clear HA
   simp only [impl_PacketOk.j0] at H
   by_cases c17 : x33_1 = true
   ·subst c17
    have H1 : (some false) = some r := by rw [if_pos rfl] at H; exact H
    clear H
    have H := H1
    clear H1
    obtain rfl := Option.some.inj H
    go_wp2
    go_ret
    exact ⟨er_q, bw_q HB⟩
   ·replace c17 := Bool.eq_false_iff.mpr c17
    subst c17
    have H1 : (if a0_0 = 1 then ((impl_heardUp.f kj1 l0_4).bind fun t1553 => (if t1553 = true then (some ((l0_5.length : Int) == 0)) else (some false))) else (impl_PacketOk.l0 kj1 l0_5 (l0_5.length : Int) 0 a0_0 a0_1 a0_2 a0_3 l0_4 l0_5)) = some r := by rw [if_neg (show ¬ (false = true) by decide)] at H; exact H
    clear H
    have H := H1
    clear H1
    by_cases c18 : a0_0 = 1
    ·rw [if_pos c18] at H
     have c18b0 : (a0_0 == 1) = true := beq_iff_eq.mpr c18
     have c18b1 : (a0_0 != 1) = false := bne_eq_false_iff_eq.mpr c18
     clear c18
     replace H := Option.bind_eq_some_iff.mp H
     obtain ⟨t1553, A190, H⟩ := H
     replace H : (if t1553 = true then (some ((l0_5.length : Int) == 0)) else (some false)) = some r := H
     have A19 := Aside0.mk A190
     clear A190
     by_cases c20 : t1553 = true
     ·subst c20
      have H1 : (some ((l0_5.length : Int) == 0)) = some r := by rw [if_pos rfl] at H; exact H
      clear H
      have H := H1
      clear H1
      obtain rfl := Option.some.inj H
      have hcz21_0 : wc.cell? ⟨gb1548, 0, none⟩ = some (.int .i64 a0_0) := (blk_cell BK1548.out 0).trans rfl
      have hcz21_1 : wc.cell? ⟨gb1548, 1, none⟩ = some (.int .i64 a0_1) := (blk_cell BK1548.out 1).trans rfl
      have hcz21_2 : wc.cell? ⟨gb1548, 2, none⟩ = some (.int .i64 a0_2) := (blk_cell BK1548.out 2).trans rfl
      have hcz21_3 : wc.cell? ⟨gb1548, 3, none⟩ = some (.int .i64 a0_3) := (blk_cell BK1548.out 3).trans rfl
      have hcz21_4 : wc.cell? ⟨gb1548, 4, none⟩ = some (.slice A0_4 l0_4.length c0_4) := (blk_cell BK1548.out 4).trans rfl
      have hcz21_5 : wc.cell? ⟨gb1548, 5, none⟩ = some (.slice A0_5 l0_5.length c0_5) := (blk_cell BK1548.out 5).trans rfl
      have hfz21_0 := blk_frozen BK1548.out 0
      have hfz21_1 := blk_frozen BK1548.out 1
      have hfz21_2 := blk_frozen BK1548.out 2
      have hfz21_3 := blk_frozen BK1548.out 3
      have hfz21_4 := blk_frozen BK1548.out 4
      have hfz21_5 := blk_frozen BK1548.out 5
      go_wp2_with (first | ((with_reducible refine gate_callee (f := 118) rfl ?_); refine goesL_ (some 39) rfl rfl Try.func118 (by kernel_rfl) rfl #[.slice A0_4 l0_4.length c0_4] rfl mp_q ?_; (with_reducible refine (impl_heardUp.calls kj1 _ _ l0_4 true _ ?side1 ?side2 A19.out).mono ?_); (case side1 => exact cs_q (Kd.C_below HR0_4.out HB.out)); (case side2 => exact HC0_4.out); rintro e w' ⟨rfl, ⟨nd, rfl⟩⟩; refine ⟨_, rfl, ?_⟩))
      go_ret
      exact ⟨er_q, bw_q HB⟩
     ·replace c20 := Bool.eq_false_iff.mpr c20
      subst c20
      have H1 : (some false) = some r := by rw [if_neg (show ¬ (false = true) by decide)] at H; exact H
      clear H
      have H := H1
      clear H1
      obtain rfl := Option.some.inj H
      have hcz22_0 : wc.cell? ⟨gb1548, 0, none⟩ = some (.int .i64 a0_0) := (blk_cell BK1548.out 0).trans rfl
      have hcz22_1 : wc.cell? ⟨gb1548, 1, none⟩ = some (.int .i64 a0_1) := (blk_cell BK1548.out 1).trans rfl
      have hcz22_2 : wc.cell? ⟨gb1548, 2, none⟩ = some (.int .i64 a0_2) := (blk_cell BK1548.out 2).trans rfl
      have hcz22_3 : wc.cell? ⟨gb1548, 3, none⟩ = some (.int .i64 a0_3) := (blk_cell BK1548.out 3).trans rfl
      have hcz22_4 : wc.cell? ⟨gb1548, 4, none⟩ = some (.slice A0_4 l0_4.length c0_4) := (blk_cell BK1548.out 4).trans rfl
      have hcz22_5 : wc.cell? ⟨gb1548, 5, none⟩ = some (.slice A0_5 l0_5.length c0_5) := (blk_cell BK1548.out 5).trans rfl
      have hfz22_0 := blk_frozen BK1548.out 0
      have hfz22_1 := blk_frozen BK1548.out 1
      have hfz22_2 := blk_frozen BK1548.out 2
      have hfz22_3 := blk_frozen BK1548.out 3
      have hfz22_4 := blk_frozen BK1548.out 4
      have hfz22_5 := blk_frozen BK1548.out 5
      go_wp2_with (first | ((with_reducible refine gate_callee (f := 118) rfl ?_); refine goesL_ (some 39) rfl rfl Try.func118 (by kernel_rfl) rfl #[.slice A0_4 l0_4.length c0_4] rfl mp_q ?_; (with_reducible refine (impl_heardUp.calls kj1 _ _ l0_4 false _ ?side1 ?side2 A19.out).mono ?_); (case side1 => exact cs_q (Kd.C_below HR0_4.out HB.out)); (case side2 => exact HC0_4.out); rintro e w' ⟨rfl, ⟨nd, rfl⟩⟩; refine ⟨_, rfl, ?_⟩))
      go_ret
      exact ⟨er_q, bw_q HB⟩
    ·rw [if_neg c18] at H
     have c18b0 : (a0_0 == 1) = false := beq_eq_false_iff_ne.mpr c18
     have c18b1 : (a0_0 != 1) = true := bne_iff_ne.mpr c18
     have H' := Aside0.mk H
     clear H
     have hcz23_0 : wc.cell? ⟨gb1548, 0, none⟩ = some (.int .i64 a0_0) := (blk_cell BK1548.out 0).trans rfl
     have hcz23_1 : wc.cell? ⟨gb1548, 1, none⟩ = some (.int .i64 a0_1) := (blk_cell BK1548.out 1).trans rfl
     have hcz23_2 : wc.cell? ⟨gb1548, 2, none⟩ = some (.int .i64 a0_2) := (blk_cell BK1548.out 2).trans rfl
     have hcz23_3 : wc.cell? ⟨gb1548, 3, none⟩ = some (.int .i64 a0_3) := (blk_cell BK1548.out 3).trans rfl
     have hcz23_4 : wc.cell? ⟨gb1548, 4, none⟩ = some (.slice A0_4 l0_4.length c0_4) := (blk_cell BK1548.out 4).trans rfl
     have hcz23_5 : wc.cell? ⟨gb1548, 5, none⟩ = some (.slice A0_5 l0_5.length c0_5) := (blk_cell BK1548.out 5).trans rfl
     have hfz23_0 := blk_frozen BK1548.out 0
     have hfz23_1 := blk_frozen BK1548.out 1
     have hfz23_2 := blk_frozen BK1548.out 2
     have hfz23_3 := blk_frozen BK1548.out 3
     have hfz23_4 := blk_frozen BK1548.out 4
     have hfz23_5 := blk_frozen BK1548.out 5
     go_wp2
     go_loopg [49] kj1 (fun kq v49 w' => ∃ (x49_2 : Int), v49 = .int .i64 x49_2 ∧ Aside0 (impl_PacketOk.l0 kq l0_5 (l0_5.length : Int) x49_2 a0_0 a0_1 a0_2 a0_3 l0_4 l0_5 = some r) ∧ Aside0 (kq ≤ kj1) ∧ Aside0 (w'.heap[gb1548]? = some (.cells #[.int .i64 a0_0, .int .i64 a0_1, .int .i64 a0_2, .int .i64 a0_3, (.slice A0_4 l0_4.length c0_4), (.slice A0_5 l0_5.length c0_5)] 83 (0, 0))) ∧ Aside0 (Below w.heap.size w w'))
     case atStart => exact ⟨(0), (by first | rfl | (simp; done) | (simp [*]; done)), H', ⟨Nat.le_refl _⟩, ⟨by refine bz_ ?_; exact BK1548.out⟩, ⟨bw_q HB⟩⟩
     case round =>
      clear H'
      try clear c1
      try clear c2
      try clear p2
      try clear c5
      try clear c7
      try clear c8
      try clear c9
      try clear c10
      try clear c10b0
      try clear c10b1
      try clear c11
      try clear c17
      try clear c18
      try clear c18b0
      try clear c18b1
      try clear c20
      try clear hcz11_0
      try clear hcz11_1
      try clear hcz11_2
      try clear hcz11_3
      try clear hcz11_4
      try clear hcz11_5
      try clear hcz13_0
      try clear hcz13_1
      try clear hcz13_2
      try clear hcz13_3
      try clear hcz13_4
      try clear hcz13_5
      try clear hcz14_0
      try clear hcz14_1
      try clear hcz14_2
      try clear hcz14_3
      try clear hcz14_4
      try clear hcz14_5
      try clear hcz15_0
      try clear hcz15_1
      try clear hcz15_2
      try clear hcz15_3
      try clear hcz15_4
      try clear hcz15_5
      try clear hcz16_0
      try clear hcz16_1
      try clear hcz16_2
      try clear hcz16_3
      try clear hcz16_4
      try clear hcz16_5
      try clear hcz21_0
      try clear hcz21_1
      try clear hcz21_2
      try clear hcz21_3
      try clear hcz21_4
      try clear hcz21_5
      try clear hcz22_0
      try clear hcz22_1
      try clear hcz22_2
      try clear hcz22_3
      try clear hcz22_4
      try clear hcz22_5
      try clear hcz23_0
      try clear hcz23_1
      try clear hcz23_2
      try clear hcz23_3
      try clear hcz23_4
      try clear hcz23_5
      try clear hfz11_0
      try clear hfz11_1
      try clear hfz11_2
      try clear hfz11_3
      try clear hfz11_4
      try clear hfz11_5
      try clear hfz13_0
      try clear hfz13_1
      try clear hfz13_2
      try clear hfz13_3
      try clear hfz13_4
      try clear hfz13_5
      try clear hfz14_0
      try clear hfz14_1
      try clear hfz14_2
      try clear hfz14_3
      try clear hfz14_4
      try clear hfz14_5
      try clear hfz15_0
      try clear hfz15_1
      try clear hfz15_2
      try clear hfz15_3
      try clear hfz15_4
      try clear hfz15_5
      try clear hfz16_0
      try clear hfz16_1
      try clear hfz16_2
      try clear hfz16_3
      try clear hfz16_4
      try clear hfz16_5
      try clear hfz21_0
      try clear hfz21_1
      try clear hfz21_2
      try clear hfz21_3
      try clear hfz21_4
      try clear hfz21_5
      try clear hfz22_0
      try clear hfz22_1
      try clear hfz22_2
      try clear hfz22_3
      try clear hfz22_4
      try clear hfz22_5
      try clear hfz23_0
      try clear hfz23_1
      try clear hfz23_2
      try clear hfz23_3
      try clear hfz23_4
      try clear hfz23_5
      try clear p2
      obtain ⟨x49_2, rfl, HA, HK2, BK1548, HB⟩ := hrel
      cases gk with
      | zero => exact absurd HA.out (by simp [impl_PacketOk.l0])
      | succ k2 =>
       have H := HA.out
       clear HA
       simp only [impl_PacketOk.l0] at H
       by_cases c24 : x49_2 < (l0_5.length : Int)
       ·rw [if_pos c24] at H
        have c24b0 : decide (x49_2 < (l0_5.length : Int)) = true := decide_eq_true c24
        clear c24
        by_cases c25 : 0 ≤ x49_2
        ·rw [if_pos c25] at H
         have c25b0 : decide (0 ≤ x49_2) = true := decide_eq_true c25
         clear c25
         by_cases c26 : x49_2 < (l0_5.length : Int)
         ·rw [if_pos c26] at H
          have c26b0 : decide (x49_2 < (l0_5.length : Int)) = true := decide_eq_true c26
          clear c26
          by_cases c27 : ((rd_T61 l0_5 x49_2).f0) = a0_3
          ·rw [if_pos c27] at H
           have c27b0 : (((rd_T61 l0_5 x49_2).f0) == a0_3) = true := beq_iff_eq.mpr c27
           have c27b1 : (((rd_T61 l0_5 x49_2).f0) != a0_3) = false := bne_eq_false_iff_eq.mpr c27
           clear c27
           have HC28 := Aside0.mk H
           clear H
           have p1554 : 0 ≤ (x49_2 : Int) := of_decide_eq_true as_q
           have q1554 : x49_2 < (l0_5.length : Int) := of_decide_eq_true as_q
           obtain ⟨ad1554, A1554_5, c1554_5, e1554, hx1554_0, hx1554_1, hx1554_2, hx1554_3, hx1554_4, hx1554_5, hx1554_6, hx1554_7, hl1554_5, hi1554_5⟩ := at_T61 HR0_5.out x49_2 p1554 q1554
           cases e1554
           replace hx1554_0 := (HB.out.cell (World.block_lt_of_cell? w _ hx1554_0)).trans hx1554_0
           replace hx1554_1 := (HB.out.cell (World.block_lt_of_cell? w _ hx1554_1)).trans hx1554_1
           replace hx1554_2 := (HB.out.cell (World.block_lt_of_cell? w _ hx1554_2)).trans hx1554_2
           replace hx1554_3 := (HB.out.cell (World.block_lt_of_cell? w _ hx1554_3)).trans hx1554_3
           replace hx1554_4 := (HB.out.cell (World.block_lt_of_cell? w _ hx1554_4)).trans hx1554_4
           replace hx1554_5 := (HB.out.cell (World.block_lt_of_cell? w _ hx1554_5)).trans hx1554_5
           replace hx1554_6 := (HB.out.cell (World.block_lt_of_cell? w _ hx1554_6)).trans hx1554_6
           replace hx1554_7 := (HB.out.cell (World.block_lt_of_cell? w _ hx1554_7)).trans hx1554_7
           have HR1554_5 := Aside0.mk hi1554_5
           have HC1554_5 := Aside0.mk hl1554_5
           clear hi1554_5 hl1554_5
           replace p1554 := eq_true p1554
           replace q1554 := eq_true q1554
           go_upto_if 62 with (first | ((with_reducible refine gate_dst (N := 4) rfl ?_); (try (refine gate_guard (by rfl) ?_; dsimp only)); refine box_q 4 #[.int .i64 0, .int .i64 0, .int .i64 0, .int .i64 0, .int .i64 0, .slice none 0 0, .int .i64 0, .bool false] 61 ?_; intro gb1555 hg w29 hbox hb; have BK1555 := Aside0.mk (hbox); have GW1555 := Aside0.mk ((by rw [hg]; exact (below_size (bw_q HB)) : w.heap.size ≤ gb1555)); have GE1555 := Aside0.mk ((by rw [hg]; exact (below_size (bw_q HB)) : w.heap.size ≤ gb1555)); replace HB := Aside0.mk (below_step (bw_q HB) hb); have NB1548_1555 := Aside0.mk ((by rw [hg]; exact Nat.ne_of_lt (blk_lt (g := gb1548) (o := .cells #[.int .i64 a0_0, .int .i64 a0_1, .int .i64 a0_2, .int .i64 a0_3, .slice A0_4 l0_4.length c0_4, .slice (some ad1554) l0_5.length c0_5] 83 (0, 0)) (bk_q BK1548)) : gb1548 ≠ gb1555)); have NB1555_1548 := Aside0.mk ((by rw [hg]; exact Nat.ne_of_gt (blk_lt (g := gb1548) (o := .cells #[.int .i64 a0_0, .int .i64 a0_1, .int .i64 a0_2, .int .i64 a0_3, .slice A0_4 l0_4.length c0_4, .slice (some ad1554) l0_5.length c0_5] 83 (0, 0)) (bk_q BK1548)) : gb1555 ≠ gb1548)); replace BK1548 := Aside0.mk (blk_below (g := gb1548) (bk_q BK1548) hb); clear hb hbox hg; have hnb30 := NB1555_1548.out; have hnc30 := NB1548_1555.out; have hcz31_0 : w29.cell? ⟨gb1555, 0, none⟩ = some (.int .i64 0) := (blk_cell BK1555.out 0).trans rfl; have hcz31_1 : w29.cell? ⟨gb1555, 1, none⟩ = some (.int .i64 0) := (blk_cell BK1555.out 1).trans rfl; have hcz31_2 : w29.cell? ⟨gb1555, 2, none⟩ = some (.int .i64 0) := (blk_cell BK1555.out 2).trans rfl; have hcz31_3 : w29.cell? ⟨gb1555, 3, none⟩ = some (.int .i64 0) := (blk_cell BK1555.out 3).trans rfl; have hcz31_4 : w29.cell? ⟨gb1555, 4, none⟩ = some (.int .i64 0) := (blk_cell BK1555.out 4).trans rfl; have hcz31_5 : w29.cell? ⟨gb1555, 5, none⟩ = some (.slice none 0 0) := (blk_cell BK1555.out 5).trans rfl; have hcz31_6 : w29.cell? ⟨gb1555, 6, none⟩ = some (.int .i64 0) := (blk_cell BK1555.out 6).trans rfl; have hcz31_7 : w29.cell? ⟨gb1555, 7, none⟩ = some (.bool false) := (blk_cell BK1555.out 7).trans rfl; have hfz31_0 := blk_frozen BK1555.out 0; have hfz31_1 := blk_frozen BK1555.out 1; have hfz31_2 := blk_frozen BK1555.out 2; have hfz31_3 := blk_frozen BK1555.out 3; have hfz31_4 := blk_frozen BK1555.out 4; have hfz31_5 := blk_frozen BK1555.out 5; have hfz31_6 := blk_frozen BK1555.out 6; have hfz31_7 := blk_frozen BK1555.out 7; have hcz32_0 : w29.cell? ⟨gb1548, 0, none⟩ = some (.int .i64 a0_0) := (blk_cell BK1548.out 0).trans rfl; have hcz32_1 : w29.cell? ⟨gb1548, 1, none⟩ = some (.int .i64 a0_1) := (blk_cell BK1548.out 1).trans rfl; have hcz32_2 : w29.cell? ⟨gb1548, 2, none⟩ = some (.int .i64 a0_2) := (blk_cell BK1548.out 2).trans rfl; have hcz32_3 : w29.cell? ⟨gb1548, 3, none⟩ = some (.int .i64 a0_3) := (blk_cell BK1548.out 3).trans rfl; have hcz32_4 : w29.cell? ⟨gb1548, 4, none⟩ = some (.slice A0_4 l0_4.length c0_4) := (blk_cell BK1548.out 4).trans rfl; have hcz32_5 : w29.cell? ⟨gb1548, 5, none⟩ = some (.slice (some ad1554) l0_5.length c0_5) := (blk_cell BK1548.out 5).trans rfl; have hfz32_0 := blk_frozen BK1548.out 0; have hfz32_1 := blk_frozen BK1548.out 1; have hfz32_2 := blk_frozen BK1548.out 2; have hfz32_3 := blk_frozen BK1548.out 3; have hfz32_4 := blk_frozen BK1548.out 4; have hfz32_5 := blk_frozen BK1548.out 5))
           have n0_ : Aside0 (((((((((w29.setCell ⟨gb1555, 0, none⟩ (.int .i64 ((rd_T61 l0_5 x49_2).f0))).setCell ⟨gb1555, 1, none⟩ (.int .i64 ((rd_T61 l0_5 x49_2).f1))).setCell ⟨gb1555, 2, none⟩ (.int .i64 ((rd_T61 l0_5 x49_2).f2))).setCell ⟨gb1555, 3, none⟩ (.int .i64 ((rd_T61 l0_5 x49_2).f3))).setCell ⟨gb1555, 4, none⟩ (.int .i64 ((rd_T61 l0_5 x49_2).f4))).setCell ⟨gb1555, 5, none⟩ (.slice A1554_5 ((rd_T61 l0_5 x49_2).f5).length c1554_5)).setCell ⟨gb1555, 6, none⟩ (.int .i64 ((rd_T61 l0_5 x49_2).f6))).setCell ⟨gb1555, 7, none⟩ (.bool ((rd_T61 l0_5 x49_2).f7))).heap[gb1548]? = some (.cells #[.int .i64 a0_0, .int .i64 a0_1, .int .i64 a0_2, .int .i64 a0_3, .slice A0_4 l0_4.length c0_4, .slice (some ad1554) l0_5.length c0_5] 83 (0, 0))) := ⟨by refine bz_ ?_; refine blk_far ?_ NB1548_1555.out _; refine bz_ ?_; refine blk_far ?_ NB1548_1555.out _; refine bz_ ?_; refine blk_far ?_ NB1548_1555.out _; refine bz_ ?_; refine blk_far ?_ NB1548_1555.out _; refine bz_ ?_; refine blk_far ?_ NB1548_1555.out _; refine bz_ ?_; refine blk_far ?_ NB1548_1555.out _; refine bz_ ?_; refine blk_far ?_ NB1548_1555.out _; refine bz_ ?_; refine blk_far ?_ NB1548_1555.out _; refine bz_ ?_; exact BK1548.out⟩
           have n1_ : Aside0 (((((((((w29.setCell ⟨gb1555, 0, none⟩ (.int .i64 ((rd_T61 l0_5 x49_2).f0))).setCell ⟨gb1555, 1, none⟩ (.int .i64 ((rd_T61 l0_5 x49_2).f1))).setCell ⟨gb1555, 2, none⟩ (.int .i64 ((rd_T61 l0_5 x49_2).f2))).setCell ⟨gb1555, 3, none⟩ (.int .i64 ((rd_T61 l0_5 x49_2).f3))).setCell ⟨gb1555, 4, none⟩ (.int .i64 ((rd_T61 l0_5 x49_2).f4))).setCell ⟨gb1555, 5, none⟩ (.slice A1554_5 ((rd_T61 l0_5 x49_2).f5).length c1554_5)).setCell ⟨gb1555, 6, none⟩ (.int .i64 ((rd_T61 l0_5 x49_2).f6))).setCell ⟨gb1555, 7, none⟩ (.bool ((rd_T61 l0_5 x49_2).f7))).heap[gb1555]? = some (.cells #[.int .i64 ((rd_T61 l0_5 x49_2).f0), .int .i64 ((rd_T61 l0_5 x49_2).f1), .int .i64 ((rd_T61 l0_5 x49_2).f2), .int .i64 ((rd_T61 l0_5 x49_2).f3), .int .i64 ((rd_T61 l0_5 x49_2).f4), .slice A1554_5 ((rd_T61 l0_5 x49_2).f5).length c1554_5, .int .i64 ((rd_T61 l0_5 x49_2).f6), .bool ((rd_T61 l0_5 x49_2).f7)] 61 (0, 0))) := ⟨by refine bz_ ?_; refine blk_put (cs := #[.int .i64 ((rd_T61 l0_5 x49_2).f0), .int .i64 ((rd_T61 l0_5 x49_2).f1), .int .i64 ((rd_T61 l0_5 x49_2).f2), .int .i64 ((rd_T61 l0_5 x49_2).f3), .int .i64 ((rd_T61 l0_5 x49_2).f4), .slice A1554_5 ((rd_T61 l0_5 x49_2).f5).length c1554_5, .int .i64 ((rd_T61 l0_5 x49_2).f6), .bool false]) ?_ 7 _ rfl; refine bz_ ?_; refine blk_put (cs := #[.int .i64 ((rd_T61 l0_5 x49_2).f0), .int .i64 ((rd_T61 l0_5 x49_2).f1), .int .i64 ((rd_T61 l0_5 x49_2).f2), .int .i64 ((rd_T61 l0_5 x49_2).f3), .int .i64 ((rd_T61 l0_5 x49_2).f4), .slice A1554_5 ((rd_T61 l0_5 x49_2).f5).length c1554_5, .int .i64 0, .bool false]) ?_ 6 _ rfl; refine bz_ ?_; refine blk_put (cs := #[.int .i64 ((rd_T61 l0_5 x49_2).f0), .int .i64 ((rd_T61 l0_5 x49_2).f1), .int .i64 ((rd_T61 l0_5 x49_2).f2), .int .i64 ((rd_T61 l0_5 x49_2).f3), .int .i64 ((rd_T61 l0_5 x49_2).f4), .slice none 0 0, .int .i64 0, .bool false]) ?_ 5 _ rfl; refine bz_ ?_; refine blk_put (cs := #[.int .i64 ((rd_T61 l0_5 x49_2).f0), .int .i64 ((rd_T61 l0_5 x49_2).f1), .int .i64 ((rd_T61 l0_5 x49_2).f2), .int .i64 ((rd_T61 l0_5 x49_2).f3), .int .i64 0, .slice none 0 0, .int .i64 0, .bool false]) ?_ 4 _ rfl; refine bz_ ?_; refine blk_put (cs := #[.int .i64 ((rd_T61 l0_5 x49_2).f0), .int .i64 ((rd_T61 l0_5 x49_2).f1), .int .i64 ((rd_T61 l0_5 x49_2).f2), .int .i64 0, .int .i64 0, .slice none 0 0, .int .i64 0, .bool false]) ?_ 3 _ rfl; refine bz_ ?_; refine blk_put (cs := #[.int .i64 ((rd_T61 l0_5 x49_2).f0), .int .i64 ((rd_T61 l0_5 x49_2).f1), .int .i64 0, .int .i64 0, .int .i64 0, .slice none 0 0, .int .i64 0, .bool false]) ?_ 2 _ rfl; refine bz_ ?_; refine blk_put (cs := #[.int .i64 ((rd_T61 l0_5 x49_2).f0), .int .i64 0, .int .i64 0, .int .i64 0, .int .i64 0, .slice none 0 0, .int .i64 0, .bool false]) ?_ 1 _ rfl; refine bz_ ?_; refine blk_put (cs := #[.int .i64 0, .int .i64 0, .int .i64 0, .int .i64 0, .int .i64 0, .slice none 0 0, .int .i64 0, .bool false]) ?_ 0 _ rfl; refine bz_ ?_; exact BK1555.out⟩
           have n2_ : Aside0 (Below w.heap.size w ((((((((w29.setCell ⟨gb1555, 0, none⟩ (.int .i64 ((rd_T61 l0_5 x49_2).f0))).setCell ⟨gb1555, 1, none⟩ (.int .i64 ((rd_T61 l0_5 x49_2).f1))).setCell ⟨gb1555, 2, none⟩ (.int .i64 ((rd_T61 l0_5 x49_2).f2))).setCell ⟨gb1555, 3, none⟩ (.int .i64 ((rd_T61 l0_5 x49_2).f3))).setCell ⟨gb1555, 4, none⟩ (.int .i64 ((rd_T61 l0_5 x49_2).f4))).setCell ⟨gb1555, 5, none⟩ (.slice A1554_5 ((rd_T61 l0_5 x49_2).f5).length c1554_5)).setCell ⟨gb1555, 6, none⟩ (.int .i64 ((rd_T61 l0_5 x49_2).f6))).setCell ⟨gb1555, 7, none⟩ (.bool ((rd_T61 l0_5 x49_2).f7)))) := ⟨bw_q HB⟩
           (try clear BK1548)
           (try clear BK1555)
           (try clear HB)
           generalize ((((((((w29.setCell ⟨gb1555, 0, none⟩ (.int .i64 ((rd_T61 l0_5 x49_2).f0))).setCell ⟨gb1555, 1, none⟩ (.int .i64 ((rd_T61 l0_5 x49_2).f1))).setCell ⟨gb1555, 2, none⟩ (.int .i64 ((rd_T61 l0_5 x49_2).f2))).setCell ⟨gb1555, 3, none⟩ (.int .i64 ((rd_T61 l0_5 x49_2).f3))).setCell ⟨gb1555, 4, none⟩ (.int .i64 ((rd_T61 l0_5 x49_2).f4))).setCell ⟨gb1555, 5, none⟩ (.slice A1554_5 ((rd_T61 l0_5 x49_2).f5).length c1554_5)).setCell ⟨gb1555, 6, none⟩ (.int .i64 ((rd_T61 l0_5 x49_2).f6))).setCell ⟨gb1555, 7, none⟩ (.bool ((rd_T61 l0_5 x49_2).f7))) = w33 at n0_ n1_ n2_ ⊢
           have BK1548 := n0_
           have BK1555 := n1_
           have HB := n2_
           clear n0_ n1_ n2_
           (try clear hx1554_0); (try clear hx1554_1); (try clear hx1554_2); (try clear hx1554_3); (try clear hx1554_4); (try clear hx1554_5); (try clear hx1554_6); (try clear hx1554_7)
           have H := HC28.out
           clear HC28
           have H' := Aside0.mk H
           clear H
           go_wp2
           go_roundg k2
           case measure => have := HJ1.out; have := HK2.out; omega
           case rel => exact ⟨(wrap64 (x49_2 + 1)), (by first | rfl | (simp; done) | (simp [*]; done)), H', ⟨by have := HJ1.out; have := HK2.out; omega⟩, ⟨by refine bz_ ?_; exact BK1548.out⟩, ⟨bw_q HB⟩⟩
          ·rw [if_neg c27] at H
           have c27b0 : (((rd_T61 l0_5 x49_2).f0) == a0_3) = false := beq_eq_false_iff_ne.mpr c27
           have c27b1 : (((rd_T61 l0_5 x49_2).f0) != a0_3) = true := bne_iff_ne.mpr c27
           have HC34 := Aside0.mk H
           clear H
           have p1554 : 0 ≤ (x49_2 : Int) := of_decide_eq_true as_q
           have q1554 : x49_2 < (l0_5.length : Int) := of_decide_eq_true as_q
           obtain ⟨ad1554, A1554_5, c1554_5, e1554, hx1554_0, hx1554_1, hx1554_2, hx1554_3, hx1554_4, hx1554_5, hx1554_6, hx1554_7, hl1554_5, hi1554_5⟩ := at_T61 HR0_5.out x49_2 p1554 q1554
           cases e1554
           replace hx1554_0 := (HB.out.cell (World.block_lt_of_cell? w _ hx1554_0)).trans hx1554_0
           replace hx1554_1 := (HB.out.cell (World.block_lt_of_cell? w _ hx1554_1)).trans hx1554_1
           replace hx1554_2 := (HB.out.cell (World.block_lt_of_cell? w _ hx1554_2)).trans hx1554_2
           replace hx1554_3 := (HB.out.cell (World.block_lt_of_cell? w _ hx1554_3)).trans hx1554_3
           replace hx1554_4 := (HB.out.cell (World.block_lt_of_cell? w _ hx1554_4)).trans hx1554_4
           replace hx1554_5 := (HB.out.cell (World.block_lt_of_cell? w _ hx1554_5)).trans hx1554_5
           replace hx1554_6 := (HB.out.cell (World.block_lt_of_cell? w _ hx1554_6)).trans hx1554_6
           replace hx1554_7 := (HB.out.cell (World.block_lt_of_cell? w _ hx1554_7)).trans hx1554_7
           have HR1554_5 := Aside0.mk hi1554_5
           have HC1554_5 := Aside0.mk hl1554_5
           clear hi1554_5 hl1554_5
           replace p1554 := eq_true p1554
           replace q1554 := eq_true q1554
           go_upto_if 62 with (first | ((with_reducible refine gate_dst (N := 4) rfl ?_); (try (refine gate_guard (by rfl) ?_; dsimp only)); refine box_q 4 #[.int .i64 0, .int .i64 0, .int .i64 0, .int .i64 0, .int .i64 0, .slice none 0 0, .int .i64 0, .bool false] 61 ?_; intro gb1555 hg w35 hbox hb; have BK1555 := Aside0.mk (hbox); have GW1555 := Aside0.mk ((by rw [hg]; exact (below_size (bw_q HB)) : w.heap.size ≤ gb1555)); have GE1555 := Aside0.mk ((by rw [hg]; exact (below_size (bw_q HB)) : w.heap.size ≤ gb1555)); replace HB := Aside0.mk (below_step (bw_q HB) hb); have NB1548_1555 := Aside0.mk ((by rw [hg]; exact Nat.ne_of_lt (blk_lt (g := gb1548) (o := .cells #[.int .i64 a0_0, .int .i64 a0_1, .int .i64 a0_2, .int .i64 a0_3, .slice A0_4 l0_4.length c0_4, .slice (some ad1554) l0_5.length c0_5] 83 (0, 0)) (bk_q BK1548)) : gb1548 ≠ gb1555)); have NB1555_1548 := Aside0.mk ((by rw [hg]; exact Nat.ne_of_gt (blk_lt (g := gb1548) (o := .cells #[.int .i64 a0_0, .int .i64 a0_1, .int .i64 a0_2, .int .i64 a0_3, .slice A0_4 l0_4.length c0_4, .slice (some ad1554) l0_5.length c0_5] 83 (0, 0)) (bk_q BK1548)) : gb1555 ≠ gb1548)); replace BK1548 := Aside0.mk (blk_below (g := gb1548) (bk_q BK1548) hb); clear hb hbox hg; have hnb36 := NB1555_1548.out; have hnc36 := NB1548_1555.out; have hcz37_0 : w35.cell? ⟨gb1555, 0, none⟩ = some (.int .i64 0) := (blk_cell BK1555.out 0).trans rfl; have hcz37_1 : w35.cell? ⟨gb1555, 1, none⟩ = some (.int .i64 0) := (blk_cell BK1555.out 1).trans rfl; have hcz37_2 : w35.cell? ⟨gb1555, 2, none⟩ = some (.int .i64 0) := (blk_cell BK1555.out 2).trans rfl; have hcz37_3 : w35.cell? ⟨gb1555, 3, none⟩ = some (.int .i64 0) := (blk_cell BK1555.out 3).trans rfl; have hcz37_4 : w35.cell? ⟨gb1555, 4, none⟩ = some (.int .i64 0) := (blk_cell BK1555.out 4).trans rfl; have hcz37_5 : w35.cell? ⟨gb1555, 5, none⟩ = some (.slice none 0 0) := (blk_cell BK1555.out 5).trans rfl; have hcz37_6 : w35.cell? ⟨gb1555, 6, none⟩ = some (.int .i64 0) := (blk_cell BK1555.out 6).trans rfl; have hcz37_7 : w35.cell? ⟨gb1555, 7, none⟩ = some (.bool false) := (blk_cell BK1555.out 7).trans rfl; have hfz37_0 := blk_frozen BK1555.out 0; have hfz37_1 := blk_frozen BK1555.out 1; have hfz37_2 := blk_frozen BK1555.out 2; have hfz37_3 := blk_frozen BK1555.out 3; have hfz37_4 := blk_frozen BK1555.out 4; have hfz37_5 := blk_frozen BK1555.out 5; have hfz37_6 := blk_frozen BK1555.out 6; have hfz37_7 := blk_frozen BK1555.out 7; have hcz38_0 : w35.cell? ⟨gb1548, 0, none⟩ = some (.int .i64 a0_0) := (blk_cell BK1548.out 0).trans rfl; have hcz38_1 : w35.cell? ⟨gb1548, 1, none⟩ = some (.int .i64 a0_1) := (blk_cell BK1548.out 1).trans rfl; have hcz38_2 : w35.cell? ⟨gb1548, 2, none⟩ = some (.int .i64 a0_2) := (blk_cell BK1548.out 2).trans rfl; have hcz38_3 : w35.cell? ⟨gb1548, 3, none⟩ = some (.int .i64 a0_3) := (blk_cell BK1548.out 3).trans rfl; have hcz38_4 : w35.cell? ⟨gb1548, 4, none⟩ = some (.slice A0_4 l0_4.length c0_4) := (blk_cell BK1548.out 4).trans rfl; have hcz38_5 : w35.cell? ⟨gb1548, 5, none⟩ = some (.slice (some ad1554) l0_5.length c0_5) := (blk_cell BK1548.out 5).trans rfl; have hfz38_0 := blk_frozen BK1548.out 0; have hfz38_1 := blk_frozen BK1548.out 1; have hfz38_2 := blk_frozen BK1548.out 2; have hfz38_3 := blk_frozen BK1548.out 3; have hfz38_4 := blk_frozen BK1548.out 4; have hfz38_5 := blk_frozen BK1548.out 5))
           have n0_ : Aside0 (((((((((w35.setCell ⟨gb1555, 0, none⟩ (.int .i64 ((rd_T61 l0_5 x49_2).f0))).setCell ⟨gb1555, 1, none⟩ (.int .i64 ((rd_T61 l0_5 x49_2).f1))).setCell ⟨gb1555, 2, none⟩ (.int .i64 ((rd_T61 l0_5 x49_2).f2))).setCell ⟨gb1555, 3, none⟩ (.int .i64 ((rd_T61 l0_5 x49_2).f3))).setCell ⟨gb1555, 4, none⟩ (.int .i64 ((rd_T61 l0_5 x49_2).f4))).setCell ⟨gb1555, 5, none⟩ (.slice A1554_5 ((rd_T61 l0_5 x49_2).f5).length c1554_5)).setCell ⟨gb1555, 6, none⟩ (.int .i64 ((rd_T61 l0_5 x49_2).f6))).setCell ⟨gb1555, 7, none⟩ (.bool ((rd_T61 l0_5 x49_2).f7))).heap[gb1548]? = some (.cells #[.int .i64 a0_0, .int .i64 a0_1, .int .i64 a0_2, .int .i64 a0_3, .slice A0_4 l0_4.length c0_4, .slice (some ad1554) l0_5.length c0_5] 83 (0, 0))) := ⟨by refine bz_ ?_; refine blk_far ?_ NB1548_1555.out _; refine bz_ ?_; refine blk_far ?_ NB1548_1555.out _; refine bz_ ?_; refine blk_far ?_ NB1548_1555.out _; refine bz_ ?_; refine blk_far ?_ NB1548_1555.out _; refine bz_ ?_; refine blk_far ?_ NB1548_1555.out _; refine bz_ ?_; refine blk_far ?_ NB1548_1555.out _; refine bz_ ?_; refine blk_far ?_ NB1548_1555.out _; refine bz_ ?_; refine blk_far ?_ NB1548_1555.out _; refine bz_ ?_; exact BK1548.out⟩
           have n1_ : Aside0 (((((((((w35.setCell ⟨gb1555, 0, none⟩ (.int .i64 ((rd_T61 l0_5 x49_2).f0))).setCell ⟨gb1555, 1, none⟩ (.int .i64 ((rd_T61 l0_5 x49_2).f1))).setCell ⟨gb1555, 2, none⟩ (.int .i64 ((rd_T61 l0_5 x49_2).f2))).setCell ⟨gb1555, 3, none⟩ (.int .i64 ((rd_T61 l0_5 x49_2).f3))).setCell ⟨gb1555, 4, none⟩ (.int .i64 ((rd_T61 l0_5 x49_2).f4))).setCell ⟨gb1555, 5, none⟩ (.slice A1554_5 ((rd_T61 l0_5 x49_2).f5).length c1554_5)).setCell ⟨gb1555, 6, none⟩ (.int .i64 ((rd_T61 l0_5 x49_2).f6))).setCell ⟨gb1555, 7, none⟩ (.bool ((rd_T61 l0_5 x49_2).f7))).heap[gb1555]? = some (.cells #[.int .i64 ((rd_T61 l0_5 x49_2).f0), .int .i64 ((rd_T61 l0_5 x49_2).f1), .int .i64 ((rd_T61 l0_5 x49_2).f2), .int .i64 ((rd_T61 l0_5 x49_2).f3), .int .i64 ((rd_T61 l0_5 x49_2).f4), .slice A1554_5 ((rd_T61 l0_5 x49_2).f5).length c1554_5, .int .i64 ((rd_T61 l0_5 x49_2).f6), .bool ((rd_T61 l0_5 x49_2).f7)] 61 (0, 0))) := ⟨by refine bz_ ?_; refine blk_put (cs := #[.int .i64 ((rd_T61 l0_5 x49_2).f0), .int .i64 ((rd_T61 l0_5 x49_2).f1), .int .i64 ((rd_T61 l0_5 x49_2).f2), .int .i64 ((rd_T61 l0_5 x49_2).f3), .int .i64 ((rd_T61 l0_5 x49_2).f4), .slice A1554_5 ((rd_T61 l0_5 x49_2).f5).length c1554_5, .int .i64 ((rd_T61 l0_5 x49_2).f6), .bool false]) ?_ 7 _ rfl; refine bz_ ?_; refine blk_put (cs := #[.int .i64 ((rd_T61 l0_5 x49_2).f0), .int .i64 ((rd_T61 l0_5 x49_2).f1), .int .i64 ((rd_T61 l0_5 x49_2).f2), .int .i64 ((rd_T61 l0_5 x49_2).f3), .int .i64 ((rd_T61 l0_5 x49_2).f4), .slice A1554_5 ((rd_T61 l0_5 x49_2).f5).length c1554_5, .int .i64 0, .bool false]) ?_ 6 _ rfl; refine bz_ ?_; refine blk_put (cs := #[.int .i64 ((rd_T61 l0_5 x49_2).f0), .int .i64 ((rd_T61 l0_5 x49_2).f1), .int .i64 ((rd_T61 l0_5 x49_2).f2), .int .i64 ((rd_T61 l0_5 x49_2).f3), .int .i64 ((rd_T61 l0_5 x49_2).f4), .slice none 0 0, .int .i64 0, .bool false]) ?_ 5 _ rfl; refine bz_ ?_; refine blk_put (cs := #[.int .i64 ((rd_T61 l0_5 x49_2).f0), .int .i64 ((rd_T61 l0_5 x49_2).f1), .int .i64 ((rd_T61 l0_5 x49_2).f2), .int .i64 ((rd_T61 l0_5 x49_2).f3), .int .i64 0, .slice none 0 0, .int .i64 0, .bool false]) ?_ 4 _ rfl; refine bz_ ?_; refine blk_put (cs := #[.int .i64 ((rd_T61 l0_5 x49_2).f0), .int .i64 ((rd_T61 l0_5 x49_2).f1), .int .i64 ((rd_T61 l0_5 x49_2).f2), .int .i64 0, .int .i64 0, .slice none 0 0, .int .i64 0, .bool false]) ?_ 3 _ rfl; refine bz_ ?_; refine blk_put (cs := #[.int .i64 ((rd_T61 l0_5 x49_2).f0), .int .i64 ((rd_T61 l0_5 x49_2).f1), .int .i64 0, .int .i64 0, .int .i64 0, .slice none 0 0, .int .i64 0, .bool false]) ?_ 2 _ rfl; refine bz_ ?_; refine blk_put (cs := #[.int .i64 ((rd_T61 l0_5 x49_2).f0), .int .i64 0, .int .i64 0, .int .i64 0, .int .i64 0, .slice none 0 0, .int .i64 0, .bool false]) ?_ 1 _ rfl; refine bz_ ?_; refine blk_put (cs := #[.int .i64 0, .int .i64 0, .int .i64 0, .int .i64 0, .int .i64 0, .slice none 0 0, .int .i64 0, .bool false]) ?_ 0 _ rfl; refine bz_ ?_; exact BK1555.out⟩
           have n2_ : Aside0 (Below w.heap.size w ((((((((w35.setCell ⟨gb1555, 0, none⟩ (.int .i64 ((rd_T61 l0_5 x49_2).f0))).setCell ⟨gb1555, 1, none⟩ (.int .i64 ((rd_T61 l0_5 x49_2).f1))).setCell ⟨gb1555, 2, none⟩ (.int .i64 ((rd_T61 l0_5 x49_2).f2))).setCell ⟨gb1555, 3, none⟩ (.int .i64 ((rd_T61 l0_5 x49_2).f3))).setCell ⟨gb1555, 4, none⟩ (.int .i64 ((rd_T61 l0_5 x49_2).f4))).setCell ⟨gb1555, 5, none⟩ (.slice A1554_5 ((rd_T61 l0_5 x49_2).f5).length c1554_5)).setCell ⟨gb1555, 6, none⟩ (.int .i64 ((rd_T61 l0_5 x49_2).f6))).setCell ⟨gb1555, 7, none⟩ (.bool ((rd_T61 l0_5 x49_2).f7)))) := ⟨bw_q HB⟩
           (try clear BK1548)
           (try clear BK1555)
           (try clear HB)
           generalize ((((((((w35.setCell ⟨gb1555, 0, none⟩ (.int .i64 ((rd_T61 l0_5 x49_2).f0))).setCell ⟨gb1555, 1, none⟩ (.int .i64 ((rd_T61 l0_5 x49_2).f1))).setCell ⟨gb1555, 2, none⟩ (.int .i64 ((rd_T61 l0_5 x49_2).f2))).setCell ⟨gb1555, 3, none⟩ (.int .i64 ((rd_T61 l0_5 x49_2).f3))).setCell ⟨gb1555, 4, none⟩ (.int .i64 ((rd_T61 l0_5 x49_2).f4))).setCell ⟨gb1555, 5, none⟩ (.slice A1554_5 ((rd_T61 l0_5 x49_2).f5).length c1554_5)).setCell ⟨gb1555, 6, none⟩ (.int .i64 ((rd_T61 l0_5 x49_2).f6))).setCell ⟨gb1555, 7, none⟩ (.bool ((rd_T61 l0_5 x49_2).f7))) = w39 at n0_ n1_ n2_ ⊢
           have BK1548 := n0_
           have BK1555 := n1_
           have HB := n2_
           clear n0_ n1_ n2_
           (try clear hx1554_0); (try clear hx1554_1); (try clear hx1554_2); (try clear hx1554_3); (try clear hx1554_4); (try clear hx1554_5); (try clear hx1554_6); (try clear hx1554_7)
           have H := HC34.out
           clear HC34
           by_cases c40 : ((rd_T61 l0_5 x49_2).f0) = 9
           ·rw [if_pos c40] at H
            have c40b0 : (((rd_T61 l0_5 x49_2).f0) == 9) = true := beq_iff_eq.mpr c40
            have c40b1 : (((rd_T61 l0_5 x49_2).f0) != 9) = false := bne_eq_false_iff_eq.mpr c40
            clear c40
            (first | rw [c40b0] | rw [c40b1] | (simp only [i64_w, i32_w]; first | rw [c40b0] | rw [c40b1]) | skip)
            have H' := Aside0.mk H
            clear H
            go_wp2
            go_roundg k2
            case measure => have := HJ1.out; have := HK2.out; omega
            case rel => exact ⟨(wrap64 (x49_2 + 1)), (by first | rfl | (simp; done) | (simp [*]; done)), H', ⟨by have := HJ1.out; have := HK2.out; omega⟩, ⟨by refine bz_ ?_; exact BK1548.out⟩, ⟨bw_q HB⟩⟩
           ·rw [if_neg c40] at H
            have c40b0 : (((rd_T61 l0_5 x49_2).f0) == 9) = false := beq_eq_false_iff_ne.mpr c40
            have c40b1 : (((rd_T61 l0_5 x49_2).f0) != 9) = true := bne_iff_ne.mpr c40
            (first | rw [c40b0] | rw [c40b1] | (simp only [i64_w, i32_w]; first | rw [c40b0] | rw [c40b1]) | skip)
            obtain rfl := Option.some.inj H
            go_wp2
            go_ret
            exact ⟨er_q, bw_q HB⟩
         ·rw [if_neg c26] at H
          exact absurd H (by simp)
        ·rw [if_neg c25] at H
         exact absurd H (by simp)
       ·rw [if_neg c24] at H
        have c24b0 : decide (x49_2 < (l0_5.length : Int)) = false := decide_eq_false c24
        clear c24
        by_cases c41 : (l0_4.length : Int) = 0
        ·rw [if_pos c41] at H
         have c41b0 : ((l0_4.length : Int) == 0) = true := beq_iff_eq.mpr c41
         have c41b1 : ((l0_4.length : Int) != 0) = false := bne_eq_false_iff_eq.mpr c41
         clear c41
         replace H := Option.bind_eq_some_iff.mp H
         obtain ⟨t1556, A420, H⟩ := H
         replace H : (if t1556 = true then (if a0_0 = 3 then (some true) else ((impl_sumsOk.f k2 l0_5).bind fun t1557 => (some t1557))) else (some false)) = some r := H
         have A42 := Aside0.mk A420
         clear A420
         by_cases c43 : t1556 = true
         ·subst c43
          have H1 : (if a0_0 = 3 then (some true) else ((impl_sumsOk.f k2 l0_5).bind fun t1557 => (some t1557))) = some r := by rw [if_pos rfl] at H; exact H
          clear H
          have H := H1
          clear H1
          by_cases c44 : a0_0 = 3
          ·rw [if_pos c44] at H
           have c44b0 : (a0_0 == 3) = true := beq_iff_eq.mpr c44
           have c44b1 : (a0_0 != 3) = false := bne_eq_false_iff_eq.mpr c44
           clear c44
           obtain rfl := Option.some.inj H
           have hcz45_0 : wr.cell? ⟨gb1548, 0, none⟩ = some (.int .i64 a0_0) := (blk_cell BK1548.out 0).trans rfl
           have hcz45_1 : wr.cell? ⟨gb1548, 1, none⟩ = some (.int .i64 a0_1) := (blk_cell BK1548.out 1).trans rfl
           have hcz45_2 : wr.cell? ⟨gb1548, 2, none⟩ = some (.int .i64 a0_2) := (blk_cell BK1548.out 2).trans rfl
           have hcz45_3 : wr.cell? ⟨gb1548, 3, none⟩ = some (.int .i64 a0_3) := (blk_cell BK1548.out 3).trans rfl
           have hcz45_4 : wr.cell? ⟨gb1548, 4, none⟩ = some (.slice A0_4 l0_4.length c0_4) := (blk_cell BK1548.out 4).trans rfl
           have hcz45_5 : wr.cell? ⟨gb1548, 5, none⟩ = some (.slice A0_5 l0_5.length c0_5) := (blk_cell BK1548.out 5).trans rfl
           have hfz45_0 := blk_frozen BK1548.out 0
           have hfz45_1 := blk_frozen BK1548.out 1
           have hfz45_2 := blk_frozen BK1548.out 2
           have hfz45_3 := blk_frozen BK1548.out 3
           have hfz45_4 := blk_frozen BK1548.out 4
           have hfz45_5 := blk_frozen BK1548.out 5
           go_wp2_with (first | (go_at_call 50; (with_reducible refine (impl_StoreOk.calls k2 _ _ l0_5 true _ ?side1 ?side2 A42.out).mono ?_); (case side1 => exact cs_q (Kd.C_below HR0_5.out HB.out)); (case side2 => exact HC0_5.out); rintro e w46 ⟨rfl, hb⟩; replace BK1548 := Aside0.mk (blk_below (g := gb1548) (bk_q BK1548) hb); replace HB := Aside0.mk (below_step (bw_q HB) hb); (try clear hb); (try clear hb2); (try clear hk); (try clear hi); have hcz47_0 : w46.cell? ⟨gb1548, 0, none⟩ = some (.int .i64 a0_0) := (blk_cell BK1548.out 0).trans rfl; have hcz47_1 : w46.cell? ⟨gb1548, 1, none⟩ = some (.int .i64 a0_1) := (blk_cell BK1548.out 1).trans rfl; have hcz47_2 : w46.cell? ⟨gb1548, 2, none⟩ = some (.int .i64 a0_2) := (blk_cell BK1548.out 2).trans rfl; have hcz47_3 : w46.cell? ⟨gb1548, 3, none⟩ = some (.int .i64 a0_3) := (blk_cell BK1548.out 3).trans rfl; have hcz47_4 : w46.cell? ⟨gb1548, 4, none⟩ = some (.slice A0_4 l0_4.length c0_4) := (blk_cell BK1548.out 4).trans rfl; have hcz47_5 : w46.cell? ⟨gb1548, 5, none⟩ = some (.slice A0_5 l0_5.length c0_5) := (blk_cell BK1548.out 5).trans rfl; have hfz47_0 := blk_frozen BK1548.out 0; have hfz47_1 := blk_frozen BK1548.out 1; have hfz47_2 := blk_frozen BK1548.out 2; have hfz47_3 := blk_frozen BK1548.out 3; have hfz47_4 := blk_frozen BK1548.out 4; have hfz47_5 := blk_frozen BK1548.out 5))
           go_ret
           exact ⟨er_q, bw_q HB⟩
          ·rw [if_neg c44] at H
           have c44b0 : (a0_0 == 3) = false := beq_eq_false_iff_ne.mpr c44
           have c44b1 : (a0_0 != 3) = true := bne_iff_ne.mpr c44
           replace H := Option.bind_eq_some_iff.mp H
           obtain ⟨t1557, A480, H⟩ := H
           replace H : (some t1557) = some r := H
           have A48 := Aside0.mk A480
           clear A480
           obtain rfl := Option.some.inj H
           have hcz49_0 : wr.cell? ⟨gb1548, 0, none⟩ = some (.int .i64 a0_0) := (blk_cell BK1548.out 0).trans rfl
           have hcz49_1 : wr.cell? ⟨gb1548, 1, none⟩ = some (.int .i64 a0_1) := (blk_cell BK1548.out 1).trans rfl
           have hcz49_2 : wr.cell? ⟨gb1548, 2, none⟩ = some (.int .i64 a0_2) := (blk_cell BK1548.out 2).trans rfl
           have hcz49_3 : wr.cell? ⟨gb1548, 3, none⟩ = some (.int .i64 a0_3) := (blk_cell BK1548.out 3).trans rfl
           have hcz49_4 : wr.cell? ⟨gb1548, 4, none⟩ = some (.slice A0_4 l0_4.length c0_4) := (blk_cell BK1548.out 4).trans rfl
           have hcz49_5 : wr.cell? ⟨gb1548, 5, none⟩ = some (.slice A0_5 l0_5.length c0_5) := (blk_cell BK1548.out 5).trans rfl
           have hfz49_0 := blk_frozen BK1548.out 0
           have hfz49_1 := blk_frozen BK1548.out 1
           have hfz49_2 := blk_frozen BK1548.out 2
           have hfz49_3 := blk_frozen BK1548.out 3
           have hfz49_4 := blk_frozen BK1548.out 4
           have hfz49_5 := blk_frozen BK1548.out 5
           go_wp2_with (first | (go_at_call 50; (with_reducible refine (impl_StoreOk.calls k2 _ _ l0_5 true _ ?side1 ?side2 A42.out).mono ?_); (case side1 => exact cs_q (Kd.C_below HR0_5.out HB.out)); (case side2 => exact HC0_5.out); rintro e w50 ⟨rfl, hb⟩; replace BK1548 := Aside0.mk (blk_below (g := gb1548) (bk_q BK1548) hb); replace HB := Aside0.mk (below_step (bw_q HB) hb); (try clear hb); (try clear hb2); (try clear hk); (try clear hi); have hcz51_0 : w50.cell? ⟨gb1548, 0, none⟩ = some (.int .i64 a0_0) := (blk_cell BK1548.out 0).trans rfl; have hcz51_1 : w50.cell? ⟨gb1548, 1, none⟩ = some (.int .i64 a0_1) := (blk_cell BK1548.out 1).trans rfl; have hcz51_2 : w50.cell? ⟨gb1548, 2, none⟩ = some (.int .i64 a0_2) := (blk_cell BK1548.out 2).trans rfl; have hcz51_3 : w50.cell? ⟨gb1548, 3, none⟩ = some (.int .i64 a0_3) := (blk_cell BK1548.out 3).trans rfl; have hcz51_4 : w50.cell? ⟨gb1548, 4, none⟩ = some (.slice A0_4 l0_4.length c0_4) := (blk_cell BK1548.out 4).trans rfl; have hcz51_5 : w50.cell? ⟨gb1548, 5, none⟩ = some (.slice A0_5 l0_5.length c0_5) := (blk_cell BK1548.out 5).trans rfl; have hfz51_0 := blk_frozen BK1548.out 0; have hfz51_1 := blk_frozen BK1548.out 1; have hfz51_2 := blk_frozen BK1548.out 2; have hfz51_3 := blk_frozen BK1548.out 3; have hfz51_4 := blk_frozen BK1548.out 4; have hfz51_5 := blk_frozen BK1548.out 5) | (go_at_call 119; (with_reducible refine (impl_sumsOk.calls k2 _ _ l0_5 t1557 _ ?side1 ?side2 A48.out).mono ?_); (case side1 => exact cs_q (Kd.C_below HR0_5.out HB.out)); (case side2 => exact HC0_5.out); rintro e w52 ⟨rfl, hb⟩; replace BK1548 := Aside0.mk (blk_below (g := gb1548) (bk_q BK1548) hb); replace HB := Aside0.mk (below_step (bw_q HB) hb); (try clear hb); (try clear hb2); (try clear hk); (try clear hi)))
           go_ret
           exact ⟨er_q, bw_q HB⟩
         ·replace c43 := Bool.eq_false_iff.mpr c43
          subst c43
          have H1 : (some false) = some r := by rw [if_neg (show ¬ (false = true) by decide)] at H; exact H
          clear H
          have H := H1
          clear H1
          obtain rfl := Option.some.inj H
          have hcz53_0 : wr.cell? ⟨gb1548, 0, none⟩ = some (.int .i64 a0_0) := (blk_cell BK1548.out 0).trans rfl
          have hcz53_1 : wr.cell? ⟨gb1548, 1, none⟩ = some (.int .i64 a0_1) := (blk_cell BK1548.out 1).trans rfl
          have hcz53_2 : wr.cell? ⟨gb1548, 2, none⟩ = some (.int .i64 a0_2) := (blk_cell BK1548.out 2).trans rfl
          have hcz53_3 : wr.cell? ⟨gb1548, 3, none⟩ = some (.int .i64 a0_3) := (blk_cell BK1548.out 3).trans rfl
          have hcz53_4 : wr.cell? ⟨gb1548, 4, none⟩ = some (.slice A0_4 l0_4.length c0_4) := (blk_cell BK1548.out 4).trans rfl
          have hcz53_5 : wr.cell? ⟨gb1548, 5, none⟩ = some (.slice A0_5 l0_5.length c0_5) := (blk_cell BK1548.out 5).trans rfl
          have hfz53_0 := blk_frozen BK1548.out 0
          have hfz53_1 := blk_frozen BK1548.out 1
          have hfz53_2 := blk_frozen BK1548.out 2
          have hfz53_3 := blk_frozen BK1548.out 3
          have hfz53_4 := blk_frozen BK1548.out 4
          have hfz53_5 := blk_frozen BK1548.out 5
          go_wp2_with (first | (go_at_call 50; (with_reducible refine (impl_StoreOk.calls k2 _ _ l0_5 false _ ?side1 ?side2 A42.out).mono ?_); (case side1 => exact cs_q (Kd.C_below HR0_5.out HB.out)); (case side2 => exact HC0_5.out); rintro e w54 ⟨rfl, hb⟩; replace BK1548 := Aside0.mk (blk_below (g := gb1548) (bk_q BK1548) hb); replace HB := Aside0.mk (below_step (bw_q HB) hb); (try clear hb); (try clear hb2); (try clear hk); (try clear hi)))
          go_ret
          exact ⟨er_q, bw_q HB⟩
        ·rw [if_neg c41] at H
         have c41b0 : ((l0_4.length : Int) == 0) = false := beq_eq_false_iff_ne.mpr c41
         have c41b1 : ((l0_4.length : Int) != 0) = true := bne_iff_ne.mpr c41
         have c41b2 : ¬ (l0_4 = []) := fun h_ => c41 (by rw [h_]; rfl)
         obtain rfl := Option.some.inj H
         have hcz55_0 : wr.cell? ⟨gb1548, 0, none⟩ = some (.int .i64 a0_0) := (blk_cell BK1548.out 0).trans rfl
         have hcz55_1 : wr.cell? ⟨gb1548, 1, none⟩ = some (.int .i64 a0_1) := (blk_cell BK1548.out 1).trans rfl
         have hcz55_2 : wr.cell? ⟨gb1548, 2, none⟩ = some (.int .i64 a0_2) := (blk_cell BK1548.out 2).trans rfl
         have hcz55_3 : wr.cell? ⟨gb1548, 3, none⟩ = some (.int .i64 a0_3) := (blk_cell BK1548.out 3).trans rfl
         have hcz55_4 : wr.cell? ⟨gb1548, 4, none⟩ = some (.slice A0_4 l0_4.length c0_4) := (blk_cell BK1548.out 4).trans rfl
         have hcz55_5 : wr.cell? ⟨gb1548, 5, none⟩ = some (.slice A0_5 l0_5.length c0_5) := (blk_cell BK1548.out 5).trans rfl
         have hfz55_0 := blk_frozen BK1548.out 0
         have hfz55_1 := blk_frozen BK1548.out 1
         have hfz55_2 := blk_frozen BK1548.out 2
         have hfz55_3 := blk_frozen BK1548.out 3
         have hfz55_4 := blk_frozen BK1548.out 4
         have hfz55_5 := blk_frozen BK1548.out 5
         go_wp2
         go_ret
         exact ⟨er_q, bw_q HB⟩

end Go.Proofs.Ythjmdiggglkeaaa.Q
