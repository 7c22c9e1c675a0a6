import Derived.Test.YtnecbkognpponaaXPacketTextQlawstoNearS
import Derived.Test.YtnecbkognpponaaXPacketTextQimplBefore
import Derived.Test.YtnecbkognpponaaXPacketTextQimplSameKey
import Derived.Test.YtnecbkognpponaaXPacketTextQimplsumsOk
/- A Go function as a Lean function, and its contract: for every input the Go code comes to what the Lean function tells. -/





namespace Go.Proofs.Ytnecbkognpponaa.Q
open Go.RowKit Go.Proofs.YtnecbkognpponaaW.PrintWords Go.Proofs.YtnecbkognpponaaW.PrintLast Go.Proofs.YtnecbkognpponaaW.PrintMore
attribute [local go_sem] max2_int min2_int max_two min_two max_three min_three max_four min_four   -- for this text's walks alone
set_option linter.unusedVariables false
set_option linter.unusedSimpArgs false

/-! ### impl_PacketOk: function 31 -/
mutual
def impl_PacketOk.j0 : Nat → Bool → Int → Int → Int → Int → List Int → List (S24) → Option (Bool)
 | 0, _, _, _, _, _, _, _ => none
 | k + 1, x33, x317000, x317001, x317002, x317003, x317004, x317005 => if x33 = true then (some false) else (if x317000 = 1 then ((impl_heardUp.f k x317004).bind fun t321 => (if t321 = true then (some ((x317005.length : Int) == 0)) else (some false))) else (impl_PacketOk.l0 k x317005 (x317005.length : Int) 0 x317000 x317001 x317002 x317003 x317004 x317005))
def impl_PacketOk.l0 : Nat → List (S24) → Int → Int → Int → Int → Int → Int → List Int → List (S24) → Option (Bool)
 | 0, _, _, _, _, _, _, _, _, _ => none
 | k + 1, x47, x48, x49, x317000, x317001, x317002, x317003, x317004, x317005 => if x49 < x48 then (if 0 ≤ x49 then (if x49 < (x47.length : Int) then (if ((rd_T24 x47 x49).f0) = x317003 then (impl_PacketOk.l0 k x47 x48 (wrap64 (x49 + 1)) x317000 x317001 x317002 x317003 x317004 x317005) else (if ((rd_T24 x47 x49).f0) = 9 then (impl_PacketOk.l0 k x47 x48 (wrap64 (x49 + 1)) x317000 x317001 x317002 x317003 x317004 x317005) else (some false))) else (none)) else (none)) else (if (x317004.length : Int) = 0 then ((impl_StoreOk.f k x317005).bind fun t324 => (if t324 = true then (if x317000 = 3 then (some true) else ((impl_sumsOk.f k x317005).bind fun t325 => (some t325))) else (some false))) else (some false))
end
def impl_PacketOk.f (k : Nat) (a0_0 : Int) (a0_1 : Int) (a0_2 : Int) (a0_3 : Int) (l0_4 : List Int) (l0_5 : List (S24)) : Option (Bool) := (impl_in.f a0_0 1 3).bind fun t317 => (if t317 = true then ((impl_in.f a0_1 1 6).bind fun t318 => (if t318 = true then ((impl_in.f a0_2 1 6).bind fun t319 => (if t319 = true then (if a0_1 = a0_2 then (impl_PacketOk.j0 k true a0_0 a0_1 a0_2 a0_3 l0_4 l0_5) else ((impl_in.f a0_3 0 2).bind fun t320 => (impl_PacketOk.j0 k (!t320) a0_0 a0_1 a0_2 a0_3 l0_4 l0_5))) else (impl_PacketOk.j0 k true a0_0 a0_1 a0_2 a0_3 l0_4 l0_5))) else (impl_PacketOk.j0 k true a0_0 a0_1 a0_2 a0_3 l0_4 l0_5))) else (impl_PacketOk.j0 k true a0_0 a0_1 a0_2 a0_3 l0_4 l0_5))
theorem impl_PacketOk.mono_l : ∀ k, (∀ y0 y1 y2 y3 y4 y5 y6, LeO (impl_PacketOk.j0 k y0 y1 y2 y3 y4 y5 y6) (impl_PacketOk.j0 (k + 1) y0 y1 y2 y3 y4 y5 y6)) ∧ (∀ y0 y1 y2 y3 y4 y5 y6 y7 y8, LeO (impl_PacketOk.l0 k y0 y1 y2 y3 y4 y5 y6 y7 y8) (impl_PacketOk.l0 (k + 1) y0 y1 y2 y3 y4 y5 y6 y7 y8))
 | 0 => ⟨fun _ _ _ _ _ _ _ r h => by simp [impl_PacketOk.j0] at h, fun _ _ _ _ _ _ _ _ _ r h => by simp [impl_PacketOk.l0] at h⟩
 | k + 1 => by
  obtain ⟨ih0, ih1⟩ := impl_PacketOk.mono_l k
  refine ⟨?_, ?_⟩
  ·intro y0 y1 y2 y3 y4 y5 y6
   unfold impl_PacketOk.j0
   repeat' first
   | (with_reducible exact ih0 _ _ _ _ _ _ _)
   | (with_reducible exact ih1 _ _ _ _ _ _ _ _ _)
   | (with_reducible exact impl_StoreOk.mono _ _)
   | (with_reducible exact impl_heardUp.mono _ _)
   | (with_reducible exact impl_sumsOk.mono _ _)
   | (with_reducible exact LeO.refl _)
   | (with_reducible exact LeO.none _)
   | (with_reducible refine LeO.ite ?_ ?_)
   | (with_reducible refine LeO.bind ?_ (fun _ => ?_))
   | exact ih0 _ _ _ _ _ _ _
   | exact ih1 _ _ _ _ _ _ _ _ _
   | exact impl_StoreOk.mono _ _
   | exact impl_heardUp.mono _ _
   | exact impl_sumsOk.mono _ _
   | exact LeO.none _
   | refine LeO.ite ?_ ?_
   | refine LeO.bind ?_ (fun _ => ?_)
  ·intro y0 y1 y2 y3 y4 y5 y6 y7 y8
   unfold impl_PacketOk.l0
   repeat' first
   | (with_reducible exact ih0 _ _ _ _ _ _ _)
   | (with_reducible exact ih1 _ _ _ _ _ _ _ _ _)
   | (with_reducible exact impl_StoreOk.mono _ _)
   | (with_reducible exact impl_heardUp.mono _ _)
   | (with_reducible exact impl_sumsOk.mono _ _)
   | (with_reducible exact LeO.refl _)
   | (with_reducible exact LeO.none _)
   | (with_reducible refine LeO.ite ?_ ?_)
   | (with_reducible refine LeO.bind ?_ (fun _ => ?_))
   | exact ih0 _ _ _ _ _ _ _
   | exact ih1 _ _ _ _ _ _ _ _ _
   | exact impl_StoreOk.mono _ _
   | exact impl_heardUp.mono _ _
   | exact impl_sumsOk.mono _ _
   | exact LeO.none _
   | refine LeO.ite ?_ ?_
   | refine LeO.bind ?_ (fun _ => ?_)
theorem impl_PacketOk.mono : ∀ a0 a1 a2 a3 a4 a5 k, LeO (impl_PacketOk.f k a0 a1 a2 a3 a4 a5) (impl_PacketOk.f (k + 1) a0 a1 a2 a3 a4 a5) := by
 intro a0 a1 a2 a3 a4 a5 k
 obtain ⟨ih0, ih1⟩ := impl_PacketOk.mono_l k
 unfold impl_PacketOk.f
 repeat' first
   | (with_reducible exact ih0 _ _ _ _ _ _ _)
   | (with_reducible exact ih1 _ _ _ _ _ _ _ _ _)
   | (with_reducible exact impl_StoreOk.mono _ _)
   | (with_reducible exact impl_heardUp.mono _ _)
   | (with_reducible exact impl_sumsOk.mono _ _)
   | (with_reducible exact LeO.refl _)
   | (with_reducible exact LeO.none _)
   | (with_reducible refine LeO.ite ?_ ?_)
   | (with_reducible refine LeO.bind ?_ (fun _ => ?_))
   | exact ih0 _ _ _ _ _ _ _
   | exact ih1 _ _ _ _ _ _ _ _ _
   | exact impl_StoreOk.mono _ _
   | exact impl_heardUp.mono _ _
   | exact impl_sumsOk.mono _ _
   | exact LeO.none _
   | refine LeO.ite ?_ ?_
   | refine LeO.bind ?_ (fun _ => ?_)
set_option maxHeartbeats 8000000 in
set_option maxRecDepth 100000 in
theorem impl_PacketOk.calls (k : Nat) (a0_0 : Int) (a0_1 : Int) (a0_2 : Int) (a0_3 : Int) (A0_4 : Option Addr) (c0_4 : Nat) (l0_4 : List Int) (A0_5 : Option Addr) (c0_5 : Nat) (l0_5 : List (S24)) (r : Bool) (w : World) (hr0_4 : Kd.C (Kd.int .i64) w A0_4 l0_4.length l0_4) (hc0_4 : l0_4.length ≤ c0_4) (hr0_5 : Kd.C k24 w A0_5 l0_5.length l0_5) (hc0_5 : l0_5.length ≤ c0_5) (h : impl_PacketOk.f k a0_0 a0_1 a0_2 a0_3 l0_4 l0_5 = some r) :
  Calls Try.prog 31 #[.agg #[.int .i64 a0_0, .int .i64 a0_1, .int .i64 a0_2, .int .i64 a0_3, .slice A0_4 l0_4.length c0_4, .slice A0_5 l0_5.length c0_5]] w fun e w' => e = .returned (.bool r) ∧ Below w.heap.size w w' := by
 have hu39 := Try.underlying39; have hu24 := Try.underlying24; have HR0_4 := Aside0.mk hr0_4; have HC0_4 := Aside0.mk hc0_4; clear hr0_4 hc0_4; have HR0_5 := Aside0.mk hr0_5; have HC0_5 := Aside0.mk hc0_5; clear hr0_5 hc0_5; have HB := Aside0.mk (Below.refl w.heap.size w)
 have H : ((impl_in.f a0_0 1 3).bind fun t317 => (if t317 = true then ((impl_in.f a0_1 1 6).bind fun t318 => (if t318 = true then ((impl_in.f a0_2 1 6).bind fun t319 => (if t319 = true then (if a0_1 = a0_2 then (impl_PacketOk.j0 k true a0_0 a0_1 a0_2 a0_3 l0_4 l0_5) else ((impl_in.f a0_3 0 2).bind fun t320 => (impl_PacketOk.j0 k (!t320) a0_0 a0_1 a0_2 a0_3 l0_4 l0_5))) else (impl_PacketOk.j0 k true a0_0 a0_1 a0_2 a0_3 l0_4 l0_5))) else (impl_PacketOk.j0 k true a0_0 a0_1 a0_2 a0_3 l0_4 l0_5))) else (impl_PacketOk.j0 k true a0_0 a0_1 a0_2 a0_3 l0_4 l0_5))) = some r := h
 clear h; have HC2 := Aside0.mk H; clear H
 go_enter Try.func31, Try.ntmps31
 go_upto_region 1 with (first | ((with_reducible refine gate_dst (N := 1) rfl ?_); (try (refine gate_guard (by rfl) ?_; dsimp only)); refine box_q 1 #[.int .i64 a0_0, .int .i64 a0_1, .int .i64 a0_2, .int .i64 a0_3, .slice A0_4 l0_4.length c0_4, .slice A0_5 l0_5.length c0_5] 39 ?_; intro gb316 hg w3 hbox hb; have BK316 := Aside0.mk (hbox); have GW316 := Aside0.mk ((by rw [hg]; exact (below_size (bw_q HB)) : w.heap.size ≤ gb316)); have GE316 := Aside0.mk ((by rw [hg]; exact (below_size (bw_q HB)) : w.heap.size ≤ gb316)); replace HB := Aside0.mk (below_step (bw_q HB) hb); clear hb hbox hg))
 (try simp only [Act.put, List.setIfInBounds_toArray, List.set_cons_zero, List.set_cons_succ])
 go_cut [33] (fun v33 wc => ∃ (kq : Nat) (x33_1 : Bool), v33 = .bool x33_1 ∧ Aside0 (impl_PacketOk.j0 kq x33_1 a0_0 a0_1 a0_2 a0_3 l0_4 l0_5 = some r) ∧ Aside0 (kq ≤ k) ∧ Aside0 (wc.heap[gb316]? = some (.cells #[.int .i64 a0_0, .int .i64 a0_1, .int .i64 a0_2, .int .i64 a0_3, (.slice A0_4 l0_4.length c0_4), (.slice A0_5 l0_5.length c0_5)] 39 (0, 0))) ∧ Aside0 (Below w.heap.size w wc))
 case first =>
  have H := HC2.out; clear HC2; replace H := Option.bind_eq_some_iff.mp H; obtain ⟨t317, A40, H⟩ := H
  replace H : (if t317 = true then ((impl_in.f a0_1 1 6).bind fun t318 => (if t318 = true then ((impl_in.f a0_2 1 6).bind fun t319 => (if t319 = true then (if a0_1 = a0_2 then (impl_PacketOk.j0 k true a0_0 a0_1 a0_2 a0_3 l0_4 l0_5) else ((impl_in.f a0_3 0 2).bind fun t320 => (impl_PacketOk.j0 k (!t320) a0_0 a0_1 a0_2 a0_3 l0_4 l0_5))) else (impl_PacketOk.j0 k true a0_0 a0_1 a0_2 a0_3 l0_4 l0_5))) else (impl_PacketOk.j0 k true a0_0 a0_1 a0_2 a0_3 l0_4 l0_5))) else (impl_PacketOk.j0 k true a0_0 a0_1 a0_2 a0_3 l0_4 l0_5)) = some r := H
  have A4 := Aside0.mk A40; clear A40
  by_cases c5 : t317 = true
  ·subst c5
   replace H : ((impl_in.f a0_1 1 6).bind fun t318 => (if t318 = true then ((impl_in.f a0_2 1 6).bind fun t319 => (if t319 = true then (if a0_1 = a0_2 then (impl_PacketOk.j0 k true a0_0 a0_1 a0_2 a0_3 l0_4 l0_5) else ((impl_in.f a0_3 0 2).bind fun t320 => (impl_PacketOk.j0 k (!t320) a0_0 a0_1 a0_2 a0_3 l0_4 l0_5))) else (impl_PacketOk.j0 k true a0_0 a0_1 a0_2 a0_3 l0_4 l0_5))) else (impl_PacketOk.j0 k true a0_0 a0_1 a0_2 a0_3 l0_4 l0_5))) = some r := by rw [if_pos rfl] at H; exact H
   replace H := Option.bind_eq_some_iff.mp H; obtain ⟨t318, A60, H⟩ := H
   replace H : (if t318 = true then ((impl_in.f a0_2 1 6).bind fun t319 => (if t319 = true then (if a0_1 = a0_2 then (impl_PacketOk.j0 k true a0_0 a0_1 a0_2 a0_3 l0_4 l0_5) else ((impl_in.f a0_3 0 2).bind fun t320 => (impl_PacketOk.j0 k (!t320) a0_0 a0_1 a0_2 a0_3 l0_4 l0_5))) else (impl_PacketOk.j0 k true a0_0 a0_1 a0_2 a0_3 l0_4 l0_5))) else (impl_PacketOk.j0 k true a0_0 a0_1 a0_2 a0_3 l0_4 l0_5)) = some r := H
   have A6 := Aside0.mk A60; clear A60
   by_cases c7 : t318 = true
   ·subst c7
    replace H : ((impl_in.f a0_2 1 6).bind fun t319 => (if t319 = true then (if a0_1 = a0_2 then (impl_PacketOk.j0 k true a0_0 a0_1 a0_2 a0_3 l0_4 l0_5) else ((impl_in.f a0_3 0 2).bind fun t320 => (impl_PacketOk.j0 k (!t320) a0_0 a0_1 a0_2 a0_3 l0_4 l0_5))) else (impl_PacketOk.j0 k true a0_0 a0_1 a0_2 a0_3 l0_4 l0_5))) = some r := by rw [if_pos rfl] at H; exact H
    replace H := Option.bind_eq_some_iff.mp H; obtain ⟨t319, A80, H⟩ := H
    replace H : (if t319 = true then (if a0_1 = a0_2 then (impl_PacketOk.j0 k true a0_0 a0_1 a0_2 a0_3 l0_4 l0_5) else ((impl_in.f a0_3 0 2).bind fun t320 => (impl_PacketOk.j0 k (!t320) a0_0 a0_1 a0_2 a0_3 l0_4 l0_5))) else (impl_PacketOk.j0 k true a0_0 a0_1 a0_2 a0_3 l0_4 l0_5)) = some r := H
    have A8 := Aside0.mk A80; clear A80
    by_cases c9 : t319 = true
    ·subst c9
     replace H : (if a0_1 = a0_2 then (impl_PacketOk.j0 k true a0_0 a0_1 a0_2 a0_3 l0_4 l0_5) else ((impl_in.f a0_3 0 2).bind fun t320 => (impl_PacketOk.j0 k (!t320) a0_0 a0_1 a0_2 a0_3 l0_4 l0_5))) = some r := by rw [if_pos rfl] at H; exact H
     by_cases c10 : a0_1 = a0_2
     ·rw [if_pos c10] at H
      have c10b0 : (a0_1 == a0_2) = true := beq_iff_eq.mpr c10
      have c10b1 : (a0_1 != a0_2) = false := bne_eq_false_iff_eq.mpr c10
      clear c10
      (first | rw [c10b0] | rw [c10b1] | (simp only [i64_w, i32_w]; first | rw [c10b0] | rw [c10b1]) | skip)
      have H' := Aside0.mk H; clear H
      have hcz11_0 : w3.cell? ⟨gb316, 0, none⟩ = some (.int .i64 a0_0) := (blk_cell BK316.out 0).trans rfl
      have hcz11_1 : w3.cell? ⟨gb316, 1, none⟩ = some (.int .i64 a0_1) := (blk_cell BK316.out 1).trans rfl
      have hcz11_2 : w3.cell? ⟨gb316, 2, none⟩ = some (.int .i64 a0_2) := (blk_cell BK316.out 2).trans rfl
      have hcz11_3 : w3.cell? ⟨gb316, 3, none⟩ = some (.int .i64 a0_3) := (blk_cell BK316.out 3).trans rfl
      have hcz11_4 : w3.cell? ⟨gb316, 4, none⟩ = some (.slice A0_4 l0_4.length c0_4) := (blk_cell BK316.out 4).trans rfl
      have hcz11_5 : w3.cell? ⟨gb316, 5, none⟩ = some (.slice A0_5 l0_5.length c0_5) := (blk_cell BK316.out 5).trans rfl
      have hfz11_0 := blk_frozen BK316.out 0; have hfz11_1 := blk_frozen BK316.out 1; have hfz11_2 := blk_frozen BK316.out 2; have hfz11_3 := blk_frozen BK316.out 3; have hfz11_4 := blk_frozen BK316.out 4; have hfz11_5 := blk_frozen BK316.out 5
      go_wp2_with (first | ((with_reducible refine gate_callee (f := 69) rfl ?_); refine goesL_ (some 7) rfl rfl Try.func69 (by kernel_rfl) rfl #[.int .i64 a0_0, .int .i64 1, .int .i64 3] rfl mp_q ?_; (with_reducible refine (impl_in.calls a0_0 1 3 true _ A4.out).mono ?_); rintro e w' ⟨rfl, ⟨nd, rfl⟩⟩; refine ⟨_, rfl, ?_⟩) | (go_at_call 69; (with_reducible refine (impl_in.calls a0_1 1 6 true _ A6.out).mono ?_); rintro e w' ⟨rfl, ⟨nd, rfl⟩⟩) | (go_at_call 69; (with_reducible refine (impl_in.calls a0_2 1 6 true _ A8.out).mono ?_); rintro e w' ⟨rfl, ⟨nd, rfl⟩⟩))
      go_meet
      case rel => exact ⟨_, (true), (by first | rfl | (simp; done) | (simp [*]; done)), H', ⟨by first | omega | exact Nat.le_refl _⟩, ⟨by refine bz_ ?_; exact BK316.out⟩, ⟨bw_q HB⟩⟩
     ·rw [if_neg c10] at H
      have c10b0 : (a0_1 == a0_2) = false := beq_eq_false_iff_ne.mpr c10
      have c10b1 : (a0_1 != a0_2) = true := bne_iff_ne.mpr c10
      (first | rw [c10b0] | rw [c10b1] | (simp only [i64_w, i32_w]; first | rw [c10b0] | rw [c10b1]) | skip)
      replace H := Option.bind_eq_some_iff.mp H; obtain ⟨t320, A120, H⟩ := H
      replace H : (impl_PacketOk.j0 k (!t320) a0_0 a0_1 a0_2 a0_3 l0_4 l0_5) = some r := H
      have A12 := Aside0.mk A120; clear A120; have H' := Aside0.mk H; clear H
      have hcz13_0 : w3.cell? ⟨gb316, 0, none⟩ = some (.int .i64 a0_0) := (blk_cell BK316.out 0).trans rfl
      have hcz13_1 : w3.cell? ⟨gb316, 1, none⟩ = some (.int .i64 a0_1) := (blk_cell BK316.out 1).trans rfl
      have hcz13_2 : w3.cell? ⟨gb316, 2, none⟩ = some (.int .i64 a0_2) := (blk_cell BK316.out 2).trans rfl
      have hcz13_3 : w3.cell? ⟨gb316, 3, none⟩ = some (.int .i64 a0_3) := (blk_cell BK316.out 3).trans rfl
      have hcz13_4 : w3.cell? ⟨gb316, 4, none⟩ = some (.slice A0_4 l0_4.length c0_4) := (blk_cell BK316.out 4).trans rfl
      have hcz13_5 : w3.cell? ⟨gb316, 5, none⟩ = some (.slice A0_5 l0_5.length c0_5) := (blk_cell BK316.out 5).trans rfl
      have hfz13_0 := blk_frozen BK316.out 0; have hfz13_1 := blk_frozen BK316.out 1; have hfz13_2 := blk_frozen BK316.out 2; have hfz13_3 := blk_frozen BK316.out 3; have hfz13_4 := blk_frozen BK316.out 4; have hfz13_5 := blk_frozen BK316.out 5
      go_wp2_with (first | ((with_reducible refine gate_callee (f := 69) rfl ?_); refine goesL_ (some 7) rfl rfl Try.func69 (by kernel_rfl) rfl #[.int .i64 a0_0, .int .i64 1, .int .i64 3] rfl mp_q ?_; (with_reducible refine (impl_in.calls a0_0 1 3 true _ A4.out).mono ?_); rintro e w' ⟨rfl, ⟨nd, rfl⟩⟩; refine ⟨_, rfl, ?_⟩) | (go_at_call 69; (with_reducible refine (impl_in.calls a0_1 1 6 true _ A6.out).mono ?_); rintro e w' ⟨rfl, ⟨nd, rfl⟩⟩) | (go_at_call 69; (with_reducible refine (impl_in.calls a0_2 1 6 true _ A8.out).mono ?_); rintro e w' ⟨rfl, ⟨nd, rfl⟩⟩) | (go_at_call 69; (with_reducible refine (impl_in.calls a0_3 0 2 t320 _ A12.out).mono ?_); rintro e w' ⟨rfl, ⟨nd, rfl⟩⟩))
      go_meet
      case rel => exact ⟨_, (!t320), (by first | rfl | (simp; done) | (simp [*]; done)), H', ⟨by first | omega | exact Nat.le_refl _⟩, ⟨by refine bz_ ?_; exact BK316.out⟩, ⟨bw_q HB⟩⟩
    ·replace c9 := Bool.eq_false_iff.mpr c9; subst c9
     replace H : (impl_PacketOk.j0 k true a0_0 a0_1 a0_2 a0_3 l0_4 l0_5) = some r := by rw [if_neg (show ¬ (false = true) by decide)] at H; exact H
     have H' := Aside0.mk H; clear H
     have hcz14_0 : w3.cell? ⟨gb316, 0, none⟩ = some (.int .i64 a0_0) := (blk_cell BK316.out 0).trans rfl
     have hcz14_1 : w3.cell? ⟨gb316, 1, none⟩ = some (.int .i64 a0_1) := (blk_cell BK316.out 1).trans rfl
     have hcz14_2 : w3.cell? ⟨gb316, 2, none⟩ = some (.int .i64 a0_2) := (blk_cell BK316.out 2).trans rfl
     have hcz14_3 : w3.cell? ⟨gb316, 3, none⟩ = some (.int .i64 a0_3) := (blk_cell BK316.out 3).trans rfl
     have hcz14_4 : w3.cell? ⟨gb316, 4, none⟩ = some (.slice A0_4 l0_4.length c0_4) := (blk_cell BK316.out 4).trans rfl
     have hcz14_5 : w3.cell? ⟨gb316, 5, none⟩ = some (.slice A0_5 l0_5.length c0_5) := (blk_cell BK316.out 5).trans rfl
     have hfz14_0 := blk_frozen BK316.out 0; have hfz14_1 := blk_frozen BK316.out 1; have hfz14_2 := blk_frozen BK316.out 2; have hfz14_3 := blk_frozen BK316.out 3; have hfz14_4 := blk_frozen BK316.out 4; have hfz14_5 := blk_frozen BK316.out 5
     go_wp2_with (first | ((with_reducible refine gate_callee (f := 69) rfl ?_); refine goesL_ (some 7) rfl rfl Try.func69 (by kernel_rfl) rfl #[.int .i64 a0_0, .int .i64 1, .int .i64 3] rfl mp_q ?_; (with_reducible refine (impl_in.calls a0_0 1 3 true _ A4.out).mono ?_); rintro e w' ⟨rfl, ⟨nd, rfl⟩⟩; refine ⟨_, rfl, ?_⟩) | (go_at_call 69; (with_reducible refine (impl_in.calls a0_1 1 6 true _ A6.out).mono ?_); rintro e w' ⟨rfl, ⟨nd, rfl⟩⟩) | (go_at_call 69; (with_reducible refine (impl_in.calls a0_2 1 6 false _ A8.out).mono ?_); rintro e w' ⟨rfl, ⟨nd, rfl⟩⟩))
     go_meet
     case rel => exact ⟨_, (true), (by first | rfl | (simp; done) | (simp [*]; done)), H', ⟨by first | omega | exact Nat.le_refl _⟩, ⟨by refine bz_ ?_; exact BK316.out⟩, ⟨bw_q HB⟩⟩
   ·replace c7 := Bool.eq_false_iff.mpr c7; subst c7
    replace H : (impl_PacketOk.j0 k true a0_0 a0_1 a0_2 a0_3 l0_4 l0_5) = some r := by rw [if_neg (show ¬ (false = true) by decide)] at H; exact H
    have H' := Aside0.mk H; clear H
    have hcz15_0 : w3.cell? ⟨gb316, 0, none⟩ = some (.int .i64 a0_0) := (blk_cell BK316.out 0).trans rfl
    have hcz15_1 : w3.cell? ⟨gb316, 1, none⟩ = some (.int .i64 a0_1) := (blk_cell BK316.out 1).trans rfl
    have hcz15_2 : w3.cell? ⟨gb316, 2, none⟩ = some (.int .i64 a0_2) := (blk_cell BK316.out 2).trans rfl
    have hcz15_3 : w3.cell? ⟨gb316, 3, none⟩ = some (.int .i64 a0_3) := (blk_cell BK316.out 3).trans rfl
    have hcz15_4 : w3.cell? ⟨gb316, 4, none⟩ = some (.slice A0_4 l0_4.length c0_4) := (blk_cell BK316.out 4).trans rfl
    have hcz15_5 : w3.cell? ⟨gb316, 5, none⟩ = some (.slice A0_5 l0_5.length c0_5) := (blk_cell BK316.out 5).trans rfl
    have hfz15_0 := blk_frozen BK316.out 0; have hfz15_1 := blk_frozen BK316.out 1; have hfz15_2 := blk_frozen BK316.out 2; have hfz15_3 := blk_frozen BK316.out 3; have hfz15_4 := blk_frozen BK316.out 4; have hfz15_5 := blk_frozen BK316.out 5
    go_wp2_with (first | ((with_reducible refine gate_callee (f := 69) rfl ?_); refine goesL_ (some 7) rfl rfl Try.func69 (by kernel_rfl) rfl #[.int .i64 a0_0, .int .i64 1, .int .i64 3] rfl mp_q ?_; (with_reducible refine (impl_in.calls a0_0 1 3 true _ A4.out).mono ?_); rintro e w' ⟨rfl, ⟨nd, rfl⟩⟩; refine ⟨_, rfl, ?_⟩) | (go_at_call 69; (with_reducible refine (impl_in.calls a0_1 1 6 false _ A6.out).mono ?_); rintro e w' ⟨rfl, ⟨nd, rfl⟩⟩))
    go_meet
    case rel => exact ⟨_, (true), (by first | rfl | (simp; done) | (simp [*]; done)), H', ⟨by first | omega | exact Nat.le_refl _⟩, ⟨by refine bz_ ?_; exact BK316.out⟩, ⟨bw_q HB⟩⟩
  ·replace c5 := Bool.eq_false_iff.mpr c5; subst c5
   replace H : (impl_PacketOk.j0 k true a0_0 a0_1 a0_2 a0_3 l0_4 l0_5) = some r := by rw [if_neg (show ¬ (false = true) by decide)] at H; exact H
   have H' := Aside0.mk H; clear H
   have hcz16_0 : w3.cell? ⟨gb316, 0, none⟩ = some (.int .i64 a0_0) := (blk_cell BK316.out 0).trans rfl
   have hcz16_1 : w3.cell? ⟨gb316, 1, none⟩ = some (.int .i64 a0_1) := (blk_cell BK316.out 1).trans rfl
   have hcz16_2 : w3.cell? ⟨gb316, 2, none⟩ = some (.int .i64 a0_2) := (blk_cell BK316.out 2).trans rfl
   have hcz16_3 : w3.cell? ⟨gb316, 3, none⟩ = some (.int .i64 a0_3) := (blk_cell BK316.out 3).trans rfl
   have hcz16_4 : w3.cell? ⟨gb316, 4, none⟩ = some (.slice A0_4 l0_4.length c0_4) := (blk_cell BK316.out 4).trans rfl
   have hcz16_5 : w3.cell? ⟨gb316, 5, none⟩ = some (.slice A0_5 l0_5.length c0_5) := (blk_cell BK316.out 5).trans rfl
   have hfz16_0 := blk_frozen BK316.out 0; have hfz16_1 := blk_frozen BK316.out 1; have hfz16_2 := blk_frozen BK316.out 2; have hfz16_3 := blk_frozen BK316.out 3; have hfz16_4 := blk_frozen BK316.out 4; have hfz16_5 := blk_frozen BK316.out 5
   go_wp2_with (first | ((with_reducible refine gate_callee (f := 69) rfl ?_); refine goesL_ (some 7) rfl rfl Try.func69 (by kernel_rfl) rfl #[.int .i64 a0_0, .int .i64 1, .int .i64 3] rfl mp_q ?_; (with_reducible refine (impl_in.calls a0_0 1 3 false _ A4.out).mono ?_); rintro e w' ⟨rfl, ⟨nd, rfl⟩⟩; refine ⟨_, rfl, ?_⟩))
   go_meet
   case rel => exact ⟨_, (true), (by first | rfl | (simp; done) | (simp [*]; done)), H', ⟨by first | omega | exact Nat.le_refl _⟩, ⟨by refine bz_ ?_; exact BK316.out⟩, ⟨bw_q HB⟩⟩
 case rest =>
  clear HC2; (try clear c1); (try clear p2); (try clear c3); (try clear c5); (try clear c6); (try clear c7); (try clear c9); (try clear c10); (try clear c10b0); (try clear c10b1); (try clear hcz11_0); (try clear hcz11_1); (try clear hcz11_2); (try clear hcz11_3); (try clear hcz11_4); (try clear hcz11_5); (try clear hcz13_0); (try clear hcz13_1); (try clear hcz13_2); (try clear hcz13_3); (try clear hcz13_4); (try clear hcz13_5); (try clear hcz14_0); (try clear hcz14_1); (try clear hcz14_2); (try clear hcz14_3); (try clear hcz14_4); (try clear hcz14_5); (try clear hcz15_0); (try clear hcz15_1); (try clear hcz15_2); (try clear hcz15_3); (try clear hcz15_4); (try clear hcz15_5); (try clear hcz16_0); (try clear hcz16_1); (try clear hcz16_2); (try clear hcz16_3); (try clear hcz16_4); (try clear hcz16_5); (try clear hfz11_0); (try clear hfz11_1); (try clear hfz11_2); (try clear hfz11_3); (try clear hfz11_4); (try clear hfz11_5); (try clear hfz13_0); (try clear hfz13_1); (try clear hfz13_2); (try clear hfz13_3); (try clear hfz13_4); (try clear hfz13_5); (try clear hfz14_0); (try clear hfz14_1); (try clear hfz14_2); (try clear hfz14_3); (try clear hfz14_4); (try clear hfz14_5); (try clear hfz15_0); (try clear hfz15_1); (try clear hfz15_2); (try clear hfz15_3); (try clear hfz15_4); (try clear hfz15_5); (try clear hfz16_0); (try clear hfz16_1); (try clear hfz16_2); (try clear hfz16_3); (try clear hfz16_4); (try clear hfz16_5); obtain ⟨kq, x33_1, rfl, HA, HJ1, BK316, HB⟩ := hcut
  cases kq with
  | zero => exact absurd HA.out (by simp [impl_PacketOk.j0])
  | succ kj1 =>
   have H := HA.out; clear HA
   simp only [impl_PacketOk.j0] at H
   by_cases c17 : x33_1 = true
   ·subst c17
    replace H : (some false) = some r := by rw [if_pos rfl] at H; exact H
    obtain rfl := Option.some.inj H
    go_wp2
    go_ret
    exact ⟨er_q, bw_q HB⟩
   ·replace c17 := Bool.eq_false_iff.mpr c17; subst c17
    replace H : (if a0_0 = 1 then ((impl_heardUp.f kj1 l0_4).bind fun t321 => (if t321 = true then (some ((l0_5.length : Int) == 0)) else (some false))) else (impl_PacketOk.l0 kj1 l0_5 (l0_5.length : Int) 0 a0_0 a0_1 a0_2 a0_3 l0_4 l0_5)) = some r := by rw [if_neg (show ¬ (false = true) by decide)] at H; exact H
    by_cases c18 : a0_0 = 1
    ·rw [if_pos c18] at H
     have c18b0 : (a0_0 == 1) = true := beq_iff_eq.mpr c18
     have c18b1 : (a0_0 != 1) = false := bne_eq_false_iff_eq.mpr c18
     clear c18; replace H := Option.bind_eq_some_iff.mp H; obtain ⟨t321, A190, H⟩ := H
     replace H : (if t321 = true then (some ((l0_5.length : Int) == 0)) else (some false)) = some r := H
     have A19 := Aside0.mk A190; clear A190
     by_cases c20 : t321 = true
     ·subst c20
      replace H : (some ((l0_5.length : Int) == 0)) = some r := by rw [if_pos rfl] at H; exact H
      obtain rfl := Option.some.inj H
      have hcz21_0 : wc.cell? ⟨gb316, 0, none⟩ = some (.int .i64 a0_0) := (blk_cell BK316.out 0).trans rfl
      have hcz21_1 : wc.cell? ⟨gb316, 1, none⟩ = some (.int .i64 a0_1) := (blk_cell BK316.out 1).trans rfl
      have hcz21_2 : wc.cell? ⟨gb316, 2, none⟩ = some (.int .i64 a0_2) := (blk_cell BK316.out 2).trans rfl
      have hcz21_3 : wc.cell? ⟨gb316, 3, none⟩ = some (.int .i64 a0_3) := (blk_cell BK316.out 3).trans rfl
      have hcz21_4 : wc.cell? ⟨gb316, 4, none⟩ = some (.slice A0_4 l0_4.length c0_4) := (blk_cell BK316.out 4).trans rfl
      have hcz21_5 : wc.cell? ⟨gb316, 5, none⟩ = some (.slice A0_5 l0_5.length c0_5) := (blk_cell BK316.out 5).trans rfl
      have hfz21_0 := blk_frozen BK316.out 0; have hfz21_1 := blk_frozen BK316.out 1; have hfz21_2 := blk_frozen BK316.out 2; have hfz21_3 := blk_frozen BK316.out 3; have hfz21_4 := blk_frozen BK316.out 4; have hfz21_5 := blk_frozen BK316.out 5
      go_wp2_with (first | ((with_reducible refine gate_callee (f := 76) rfl ?_); refine goesL_ (some 39) rfl rfl Try.func76 (by kernel_rfl) rfl #[.slice A0_4 l0_4.length c0_4] rfl mp_q ?_; (with_reducible refine (impl_heardUp.calls kj1 _ _ l0_4 true _ ?side1 ?side2 A19.out).mono ?_); (case side1 => exact cs_q (Kd.C_below HR0_4.out HB.out)); (case side2 => exact HC0_4.out); rintro e w' ⟨rfl, ⟨nd, rfl⟩⟩; refine ⟨_, rfl, ?_⟩))
      go_ret
      exact ⟨er_q, bw_q HB⟩
     ·replace c20 := Bool.eq_false_iff.mpr c20; subst c20
      replace H : (some false) = some r := by rw [if_neg (show ¬ (false = true) by decide)] at H; exact H
      obtain rfl := Option.some.inj H
      have hcz22_0 : wc.cell? ⟨gb316, 0, none⟩ = some (.int .i64 a0_0) := (blk_cell BK316.out 0).trans rfl
      have hcz22_1 : wc.cell? ⟨gb316, 1, none⟩ = some (.int .i64 a0_1) := (blk_cell BK316.out 1).trans rfl
      have hcz22_2 : wc.cell? ⟨gb316, 2, none⟩ = some (.int .i64 a0_2) := (blk_cell BK316.out 2).trans rfl
      have hcz22_3 : wc.cell? ⟨gb316, 3, none⟩ = some (.int .i64 a0_3) := (blk_cell BK316.out 3).trans rfl
      have hcz22_4 : wc.cell? ⟨gb316, 4, none⟩ = some (.slice A0_4 l0_4.length c0_4) := (blk_cell BK316.out 4).trans rfl
      have hcz22_5 : wc.cell? ⟨gb316, 5, none⟩ = some (.slice A0_5 l0_5.length c0_5) := (blk_cell BK316.out 5).trans rfl
      have hfz22_0 := blk_frozen BK316.out 0; have hfz22_1 := blk_frozen BK316.out 1; have hfz22_2 := blk_frozen BK316.out 2; have hfz22_3 := blk_frozen BK316.out 3; have hfz22_4 := blk_frozen BK316.out 4; have hfz22_5 := blk_frozen BK316.out 5
      go_wp2_with (first | ((with_reducible refine gate_callee (f := 76) rfl ?_); refine goesL_ (some 39) rfl rfl Try.func76 (by kernel_rfl) rfl #[.slice A0_4 l0_4.length c0_4] rfl mp_q ?_; (with_reducible refine (impl_heardUp.calls kj1 _ _ l0_4 false _ ?side1 ?side2 A19.out).mono ?_); (case side1 => exact cs_q (Kd.C_below HR0_4.out HB.out)); (case side2 => exact HC0_4.out); rintro e w' ⟨rfl, ⟨nd, rfl⟩⟩; refine ⟨_, rfl, ?_⟩))
      go_ret
      exact ⟨er_q, bw_q HB⟩
    ·rw [if_neg c18] at H
     have c18b0 : (a0_0 == 1) = false := beq_eq_false_iff_ne.mpr c18
     have c18b1 : (a0_0 != 1) = true := bne_iff_ne.mpr c18
     have H' := Aside0.mk H; clear H
     have hcz23_0 : wc.cell? ⟨gb316, 0, none⟩ = some (.int .i64 a0_0) := (blk_cell BK316.out 0).trans rfl
     have hcz23_1 : wc.cell? ⟨gb316, 1, none⟩ = some (.int .i64 a0_1) := (blk_cell BK316.out 1).trans rfl
     have hcz23_2 : wc.cell? ⟨gb316, 2, none⟩ = some (.int .i64 a0_2) := (blk_cell BK316.out 2).trans rfl
     have hcz23_3 : wc.cell? ⟨gb316, 3, none⟩ = some (.int .i64 a0_3) := (blk_cell BK316.out 3).trans rfl
     have hcz23_4 : wc.cell? ⟨gb316, 4, none⟩ = some (.slice A0_4 l0_4.length c0_4) := (blk_cell BK316.out 4).trans rfl
     have hcz23_5 : wc.cell? ⟨gb316, 5, none⟩ = some (.slice A0_5 l0_5.length c0_5) := (blk_cell BK316.out 5).trans rfl
     have hfz23_0 := blk_frozen BK316.out 0; have hfz23_1 := blk_frozen BK316.out 1; have hfz23_2 := blk_frozen BK316.out 2; have hfz23_3 := blk_frozen BK316.out 3; have hfz23_4 := blk_frozen BK316.out 4; have hfz23_5 := blk_frozen BK316.out 5
     go_wp2
     go_loopg [49] kj1 (fun kq v49 w' => ∃ (x49_2 : Int), v49 = .int .i64 x49_2 ∧ Aside0 (impl_PacketOk.l0 kq l0_5 (l0_5.length : Int) x49_2 a0_0 a0_1 a0_2 a0_3 l0_4 l0_5 = some r) ∧ Aside0 (kq ≤ kj1) ∧ Aside0 (w'.heap[gb316]? = some (.cells #[.int .i64 a0_0, .int .i64 a0_1, .int .i64 a0_2, .int .i64 a0_3, (.slice A0_4 l0_4.length c0_4), (.slice A0_5 l0_5.length c0_5)] 39 (0, 0))) ∧ Aside0 (Below w.heap.size w w'))
     case atStart => exact ⟨(0), (by first | rfl | (simp; done) | (simp [*]; done)), H', ⟨Nat.le_refl _⟩, ⟨by refine bz_ ?_; exact BK316.out⟩, ⟨bw_q HB⟩⟩
     case round =>
      clear H'; (try clear c1); (try clear c2); (try clear p2); (try clear c3); (try clear c5); (try clear c6); (try clear c7); (try clear c9); (try clear c10); (try clear c10b0); (try clear c10b1); (try clear c17); (try clear c18); (try clear c18b0); (try clear c18b1); (try clear c20); (try clear hcz11_0); (try clear hcz11_1); (try clear hcz11_2); (try clear hcz11_3); (try clear hcz11_4); (try clear hcz11_5); (try clear hcz13_0); (try clear hcz13_1); (try clear hcz13_2); (try clear hcz13_3); (try clear hcz13_4); (try clear hcz13_5); (try clear hcz14_0); (try clear hcz14_1); (try clear hcz14_2); (try clear hcz14_3); (try clear hcz14_4); (try clear hcz14_5); (try clear hcz15_0); (try clear hcz15_1); (try clear hcz15_2); (try clear hcz15_3); (try clear hcz15_4); (try clear hcz15_5); (try clear hcz16_0); (try clear hcz16_1); (try clear hcz16_2); (try clear hcz16_3); (try clear hcz16_4); (try clear hcz16_5); (try clear hcz21_0); (try clear hcz21_1); (try clear hcz21_2); (try clear hcz21_3); (try clear hcz21_4); (try clear hcz21_5); (try clear hcz22_0); (try clear hcz22_1); (try clear hcz22_2); (try clear hcz22_3); (try clear hcz22_4); (try clear hcz22_5); (try clear hcz23_0); (try clear hcz23_1); (try clear hcz23_2); (try clear hcz23_3); (try clear hcz23_4); (try clear hcz23_5); (try clear hfz11_0); (try clear hfz11_1); (try clear hfz11_2); (try clear hfz11_3); (try clear hfz11_4); (try clear hfz11_5); (try clear hfz13_0); (try clear hfz13_1); (try clear hfz13_2); (try clear hfz13_3); (try clear hfz13_4); (try clear hfz13_5); (try clear hfz14_0); (try clear hfz14_1); (try clear hfz14_2); (try clear hfz14_3); (try clear hfz14_4); (try clear hfz14_5); (try clear hfz15_0); (try clear hfz15_1); (try clear hfz15_2); (try clear hfz15_3); (try clear hfz15_4); (try clear hfz15_5); (try clear hfz16_0); (try clear hfz16_1); (try clear hfz16_2); (try clear hfz16_3); (try clear hfz16_4); (try clear hfz16_5); (try clear hfz21_0); (try clear hfz21_1); (try clear hfz21_2); (try clear hfz21_3); (try clear hfz21_4); (try clear hfz21_5); (try clear hfz22_0); (try clear hfz22_1); (try clear hfz22_2); (try clear hfz22_3); (try clear hfz22_4); (try clear hfz22_5); (try clear hfz23_0); (try clear hfz23_1); (try clear hfz23_2); (try clear hfz23_3); (try clear hfz23_4); (try clear hfz23_5); (try clear p2); obtain ⟨x49_2, rfl, HA, HK2, BK316, HB⟩ := hrel
      cases gk with
      | zero => exact absurd HA.out (by simp [impl_PacketOk.l0])
      | succ k2 =>
       have H := HA.out; clear HA
       simp only [impl_PacketOk.l0] at H
       by_cases c24 : x49_2 < (l0_5.length : Int)
       ·rw [if_pos c24] at H
        have c24b0 : decide (x49_2 < (l0_5.length : Int)) = true := decide_eq_true c24
        clear c24
        by_cases c25 : 0 ≤ x49_2
        ·rw [if_pos c25] at H
         have c25b0 : decide (0 ≤ x49_2) = true := decide_eq_true c25
         clear c25
         by_cases c26 : x49_2 < (l0_5.length : Int)
         ·rw [if_pos c26] at H
          have c26b0 : decide (x49_2 < (l0_5.length : Int)) = true := decide_eq_true c26
          clear c26
          by_cases c27 : ((rd_T24 l0_5 x49_2).f0) = a0_3
          ·rw [if_pos c27] at H
           have c27b0 : (((rd_T24 l0_5 x49_2).f0) == a0_3) = true := beq_iff_eq.mpr c27
           have c27b1 : (((rd_T24 l0_5 x49_2).f0) != a0_3) = false := bne_eq_false_iff_eq.mpr c27
           clear c27; have HC28 := Aside0.mk H; clear H
           have p322 : 0 ≤ (x49_2 : Int) := of_decide_eq_true as_q
           have q322 : x49_2 < (l0_5.length : Int) := of_decide_eq_true as_q
           obtain ⟨ad322, A322_5, c322_5, e322, hx322_0, hx322_1, hx322_2, hx322_3, hx322_4, hx322_5, hx322_6, hx322_7, hl322_5, hi322_5⟩ := at_T24 HR0_5.out x49_2 p322 q322
           cases e322
           replace hx322_0 := (HB.out.cell (World.block_lt_of_cell? w _ hx322_0)).trans hx322_0
           replace hx322_1 := (HB.out.cell (World.block_lt_of_cell? w _ hx322_1)).trans hx322_1
           replace hx322_2 := (HB.out.cell (World.block_lt_of_cell? w _ hx322_2)).trans hx322_2
           replace hx322_3 := (HB.out.cell (World.block_lt_of_cell? w _ hx322_3)).trans hx322_3
           replace hx322_4 := (HB.out.cell (World.block_lt_of_cell? w _ hx322_4)).trans hx322_4
           replace hx322_5 := (HB.out.cell (World.block_lt_of_cell? w _ hx322_5)).trans hx322_5
           replace hx322_6 := (HB.out.cell (World.block_lt_of_cell? w _ hx322_6)).trans hx322_6
           replace hx322_7 := (HB.out.cell (World.block_lt_of_cell? w _ hx322_7)).trans hx322_7
           have HR322_5 := Aside0.mk hi322_5; have HC322_5 := Aside0.mk hl322_5; clear hi322_5 hl322_5; replace p322 := eq_true p322; replace q322 := eq_true q322
           go_upto_if 62 with (first | ((with_reducible refine gate_dst (N := 4) rfl ?_); (try (refine gate_guard (by rfl) ?_; dsimp only)); refine box_q 4 #[.int .i64 0, .int .i64 0, .int .i64 0, .int .i64 0, .int .i64 0, .slice none 0 0, .int .i64 0, .bool false] 24 ?_; intro gb323 hg w29 hbox hb; have BK323 := Aside0.mk (hbox); have GW323 := Aside0.mk ((by rw [hg]; exact (below_size (bw_q HB)) : w.heap.size ≤ gb323)); have GE323 := Aside0.mk ((by rw [hg]; exact (below_size (bw_q HB)) : w.heap.size ≤ gb323)); replace HB := Aside0.mk (below_step (bw_q HB) hb); have NB316_323 := Aside0.mk ((by rw [hg]; exact Nat.ne_of_lt (blk_lt (g := gb316) (o := .cells #[.int .i64 a0_0, .int .i64 a0_1, .int .i64 a0_2, .int .i64 a0_3, .slice A0_4 l0_4.length c0_4, .slice (some ad322) l0_5.length c0_5] 39 (0, 0)) (bk_q BK316)) : gb316 ≠ gb323)); have NB323_316 := Aside0.mk ((by rw [hg]; exact Nat.ne_of_gt (blk_lt (g := gb316) (o := .cells #[.int .i64 a0_0, .int .i64 a0_1, .int .i64 a0_2, .int .i64 a0_3, .slice A0_4 l0_4.length c0_4, .slice (some ad322) l0_5.length c0_5] 39 (0, 0)) (bk_q BK316)) : gb323 ≠ gb316)); replace BK316 := Aside0.mk (blk_below (g := gb316) (bk_q BK316) hb); clear hb hbox hg; have hnb30 := NB323_316.out; have hnc30 := NB316_323.out; have hcz31_0 : w29.cell? ⟨gb323, 0, none⟩ = some (.int .i64 0) := (blk_cell BK323.out 0).trans rfl; have hcz31_1 : w29.cell? ⟨gb323, 1, none⟩ = some (.int .i64 0) := (blk_cell BK323.out 1).trans rfl; have hcz31_2 : w29.cell? ⟨gb323, 2, none⟩ = some (.int .i64 0) := (blk_cell BK323.out 2).trans rfl; have hcz31_3 : w29.cell? ⟨gb323, 3, none⟩ = some (.int .i64 0) := (blk_cell BK323.out 3).trans rfl; have hcz31_4 : w29.cell? ⟨gb323, 4, none⟩ = some (.int .i64 0) := (blk_cell BK323.out 4).trans rfl; have hcz31_5 : w29.cell? ⟨gb323, 5, none⟩ = some (.slice none 0 0) := (blk_cell BK323.out 5).trans rfl; have hcz31_6 : w29.cell? ⟨gb323, 6, none⟩ = some (.int .i64 0) := (blk_cell BK323.out 6).trans rfl; have hcz31_7 : w29.cell? ⟨gb323, 7, none⟩ = some (.bool false) := (blk_cell BK323.out 7).trans rfl; have hfz31_0 := blk_frozen BK323.out 0; have hfz31_1 := blk_frozen BK323.out 1; have hfz31_2 := blk_frozen BK323.out 2; have hfz31_3 := blk_frozen BK323.out 3; have hfz31_4 := blk_frozen BK323.out 4; have hfz31_5 := blk_frozen BK323.out 5; have hfz31_6 := blk_frozen BK323.out 6; have hfz31_7 := blk_frozen BK323.out 7; have hcz32_0 : w29.cell? ⟨gb316, 0, none⟩ = some (.int .i64 a0_0) := (blk_cell BK316.out 0).trans rfl; have hcz32_1 : w29.cell? ⟨gb316, 1, none⟩ = some (.int .i64 a0_1) := (blk_cell BK316.out 1).trans rfl; have hcz32_2 : w29.cell? ⟨gb316, 2, none⟩ = some (.int .i64 a0_2) := (blk_cell BK316.out 2).trans rfl; have hcz32_3 : w29.cell? ⟨gb316, 3, none⟩ = some (.int .i64 a0_3) := (blk_cell BK316.out 3).trans rfl; have hcz32_4 : w29.cell? ⟨gb316, 4, none⟩ = some (.slice A0_4 l0_4.length c0_4) := (blk_cell BK316.out 4).trans rfl; have hcz32_5 : w29.cell? ⟨gb316, 5, none⟩ = some (.slice (some ad322) l0_5.length c0_5) := (blk_cell BK316.out 5).trans rfl; have hfz32_0 := blk_frozen BK316.out 0; have hfz32_1 := blk_frozen BK316.out 1; have hfz32_2 := blk_frozen BK316.out 2; have hfz32_3 := blk_frozen BK316.out 3; have hfz32_4 := blk_frozen BK316.out 4; have hfz32_5 := blk_frozen BK316.out 5))
           have n0_ : Aside0 (((((((((w29.setCell ⟨gb323, 0, none⟩ (.int .i64 ((rd_T24 l0_5 x49_2).f0))).setCell ⟨gb323, 1, none⟩ (.int .i64 ((rd_T24 l0_5 x49_2).f1))).setCell ⟨gb323, 2, none⟩ (.int .i64 ((rd_T24 l0_5 x49_2).f2))).setCell ⟨gb323, 3, none⟩ (.int .i64 ((rd_T24 l0_5 x49_2).f3))).setCell ⟨gb323, 4, none⟩ (.int .i64 ((rd_T24 l0_5 x49_2).f4))).setCell ⟨gb323, 5, none⟩ (.slice A322_5 ((rd_T24 l0_5 x49_2).f5).length c322_5)).setCell ⟨gb323, 6, none⟩ (.int .i64 ((rd_T24 l0_5 x49_2).f6))).setCell ⟨gb323, 7, none⟩ (.bool ((rd_T24 l0_5 x49_2).f7))).heap[gb316]? = some (.cells #[.int .i64 a0_0, .int .i64 a0_1, .int .i64 a0_2, .int .i64 a0_3, .slice A0_4 l0_4.length c0_4, .slice (some ad322) l0_5.length c0_5] 39 (0, 0))) := ⟨by refine bz_ ?_; refine blk_far ?_ NB316_323.out _; refine bz_ ?_; refine blk_far ?_ NB316_323.out _; refine bz_ ?_; refine blk_far ?_ NB316_323.out _; refine bz_ ?_; refine blk_far ?_ NB316_323.out _; refine bz_ ?_; refine blk_far ?_ NB316_323.out _; refine bz_ ?_; refine blk_far ?_ NB316_323.out _; refine bz_ ?_; refine blk_far ?_ NB316_323.out _; refine bz_ ?_; refine blk_far ?_ NB316_323.out _; refine bz_ ?_; exact BK316.out⟩
           have n1_ : Aside0 (((((((((w29.setCell ⟨gb323, 0, none⟩ (.int .i64 ((rd_T24 l0_5 x49_2).f0))).setCell ⟨gb323, 1, none⟩ (.int .i64 ((rd_T24 l0_5 x49_2).f1))).setCell ⟨gb323, 2, none⟩ (.int .i64 ((rd_T24 l0_5 x49_2).f2))).setCell ⟨gb323, 3, none⟩ (.int .i64 ((rd_T24 l0_5 x49_2).f3))).setCell ⟨gb323, 4, none⟩ (.int .i64 ((rd_T24 l0_5 x49_2).f4))).setCell ⟨gb323, 5, none⟩ (.slice A322_5 ((rd_T24 l0_5 x49_2).f5).length c322_5)).setCell ⟨gb323, 6, none⟩ (.int .i64 ((rd_T24 l0_5 x49_2).f6))).setCell ⟨gb323, 7, none⟩ (.bool ((rd_T24 l0_5 x49_2).f7))).heap[gb323]? = some (.cells #[.int .i64 ((rd_T24 l0_5 x49_2).f0), .int .i64 ((rd_T24 l0_5 x49_2).f1), .int .i64 ((rd_T24 l0_5 x49_2).f2), .int .i64 ((rd_T24 l0_5 x49_2).f3), .int .i64 ((rd_T24 l0_5 x49_2).f4), .slice A322_5 ((rd_T24 l0_5 x49_2).f5).length c322_5, .int .i64 ((rd_T24 l0_5 x49_2).f6), .bool ((rd_T24 l0_5 x49_2).f7)] 24 (0, 0))) := ⟨by refine bz_ ?_; refine blk_put (cs := #[.int .i64 ((rd_T24 l0_5 x49_2).f0), .int .i64 ((rd_T24 l0_5 x49_2).f1), .int .i64 ((rd_T24 l0_5 x49_2).f2), .int .i64 ((rd_T24 l0_5 x49_2).f3), .int .i64 ((rd_T24 l0_5 x49_2).f4), .slice A322_5 ((rd_T24 l0_5 x49_2).f5).length c322_5, .int .i64 ((rd_T24 l0_5 x49_2).f6), .bool false]) ?_ 7 _ rfl; refine bz_ ?_; refine blk_put (cs := #[.int .i64 ((rd_T24 l0_5 x49_2).f0), .int .i64 ((rd_T24 l0_5 x49_2).f1), .int .i64 ((rd_T24 l0_5 x49_2).f2), .int .i64 ((rd_T24 l0_5 x49_2).f3), .int .i64 ((rd_T24 l0_5 x49_2).f4), .slice A322_5 ((rd_T24 l0_5 x49_2).f5).length c322_5, .int .i64 0, .bool false]) ?_ 6 _ rfl; refine bz_ ?_; refine blk_put (cs := #[.int .i64 ((rd_T24 l0_5 x49_2).f0), .int .i64 ((rd_T24 l0_5 x49_2).f1), .int .i64 ((rd_T24 l0_5 x49_2).f2), .int .i64 ((rd_T24 l0_5 x49_2).f3), .int .i64 ((rd_T24 l0_5 x49_2).f4), .slice none 0 0, .int .i64 0, .bool false]) ?_ 5 _ rfl; refine bz_ ?_; refine blk_put (cs := #[.int .i64 ((rd_T24 l0_5 x49_2).f0), .int .i64 ((rd_T24 l0_5 x49_2).f1), .int .i64 ((rd_T24 l0_5 x49_2).f2), .int .i64 ((rd_T24 l0_5 x49_2).f3), .int .i64 0, .slice none 0 0, .int .i64 0, .bool false]) ?_ 4 _ rfl; refine bz_ ?_; refine blk_put (cs := #[.int .i64 ((rd_T24 l0_5 x49_2).f0), .int .i64 ((rd_T24 l0_5 x49_2).f1), .int .i64 ((rd_T24 l0_5 x49_2).f2), .int .i64 0, .int .i64 0, .slice none 0 0, .int .i64 0, .bool false]) ?_ 3 _ rfl; refine bz_ ?_; refine blk_put (cs := #[.int .i64 ((rd_T24 l0_5 x49_2).f0), .int .i64 ((rd_T24 l0_5 x49_2).f1), .int .i64 0, .int .i64 0, .int .i64 0, .slice none 0 0, .int .i64 0, .bool false]) ?_ 2 _ rfl; refine bz_ ?_; refine blk_put (cs := #[.int .i64 ((rd_T24 l0_5 x49_2).f0), .int .i64 0, .int .i64 0, .int .i64 0, .int .i64 0, .slice none 0 0, .int .i64 0, .bool false]) ?_ 1 _ rfl; refine bz_ ?_; refine blk_put (cs := #[.int .i64 0, .int .i64 0, .int .i64 0, .int .i64 0, .int .i64 0, .slice none 0 0, .int .i64 0, .bool false]) ?_ 0 _ rfl; refine bz_ ?_; exact BK323.out⟩
           have n2_ : Aside0 (Below w.heap.size w ((((((((w29.setCell ⟨gb323, 0, none⟩ (.int .i64 ((rd_T24 l0_5 x49_2).f0))).setCell ⟨gb323, 1, none⟩ (.int .i64 ((rd_T24 l0_5 x49_2).f1))).setCell ⟨gb323, 2, none⟩ (.int .i64 ((rd_T24 l0_5 x49_2).f2))).setCell ⟨gb323, 3, none⟩ (.int .i64 ((rd_T24 l0_5 x49_2).f3))).setCell ⟨gb323, 4, none⟩ (.int .i64 ((rd_T24 l0_5 x49_2).f4))).setCell ⟨gb323, 5, none⟩ (.slice A322_5 ((rd_T24 l0_5 x49_2).f5).length c322_5)).setCell ⟨gb323, 6, none⟩ (.int .i64 ((rd_T24 l0_5 x49_2).f6))).setCell ⟨gb323, 7, none⟩ (.bool ((rd_T24 l0_5 x49_2).f7)))) := ⟨bw_q HB⟩
           (try clear BK316); (try clear BK323); (try clear HB)
           generalize ((((((((w29.setCell ⟨gb323, 0, none⟩ (.int .i64 ((rd_T24 l0_5 x49_2).f0))).setCell ⟨gb323, 1, none⟩ (.int .i64 ((rd_T24 l0_5 x49_2).f1))).setCell ⟨gb323, 2, none⟩ (.int .i64 ((rd_T24 l0_5 x49_2).f2))).setCell ⟨gb323, 3, none⟩ (.int .i64 ((rd_T24 l0_5 x49_2).f3))).setCell ⟨gb323, 4, none⟩ (.int .i64 ((rd_T24 l0_5 x49_2).f4))).setCell ⟨gb323, 5, none⟩ (.slice A322_5 ((rd_T24 l0_5 x49_2).f5).length c322_5)).setCell ⟨gb323, 6, none⟩ (.int .i64 ((rd_T24 l0_5 x49_2).f6))).setCell ⟨gb323, 7, none⟩ (.bool ((rd_T24 l0_5 x49_2).f7))) = w33 at n0_ n1_ n2_ ⊢
           have BK316 := n0_; have BK323 := n1_; have HB := n2_; clear n0_ n1_ n2_; (try clear hx322_0); (try clear hx322_1); (try clear hx322_2); (try clear hx322_3); (try clear hx322_4); (try clear hx322_5); (try clear hx322_6); (try clear hx322_7); have H := HC28.out; clear HC28; have H' := Aside0.mk H; clear H
           go_wp2
           go_roundg k2
           case measure => have := HJ1.out; have := HK2.out; omega
           case rel => exact ⟨(wrap64 (x49_2 + 1)), (by first | rfl | (simp; done) | (simp [*]; done)), H', ⟨by have := HJ1.out; have := HK2.out; omega⟩, ⟨by refine bz_ ?_; exact BK316.out⟩, ⟨bw_q HB⟩⟩
          ·rw [if_neg c27] at H
           have c27b0 : (((rd_T24 l0_5 x49_2).f0) == a0_3) = false := beq_eq_false_iff_ne.mpr c27
           have c27b1 : (((rd_T24 l0_5 x49_2).f0) != a0_3) = true := bne_iff_ne.mpr c27
           have HC34 := Aside0.mk H; clear H
           have p322 : 0 ≤ (x49_2 : Int) := of_decide_eq_true as_q
           have q322 : x49_2 < (l0_5.length : Int) := of_decide_eq_true as_q
           obtain ⟨ad322, A322_5, c322_5, e322, hx322_0, hx322_1, hx322_2, hx322_3, hx322_4, hx322_5, hx322_6, hx322_7, hl322_5, hi322_5⟩ := at_T24 HR0_5.out x49_2 p322 q322
           cases e322
           replace hx322_0 := (HB.out.cell (World.block_lt_of_cell? w _ hx322_0)).trans hx322_0
           replace hx322_1 := (HB.out.cell (World.block_lt_of_cell? w _ hx322_1)).trans hx322_1
           replace hx322_2 := (HB.out.cell (World.block_lt_of_cell? w _ hx322_2)).trans hx322_2
           replace hx322_3 := (HB.out.cell (World.block_lt_of_cell? w _ hx322_3)).trans hx322_3
           replace hx322_4 := (HB.out.cell (World.block_lt_of_cell? w _ hx322_4)).trans hx322_4
           replace hx322_5 := (HB.out.cell (World.block_lt_of_cell? w _ hx322_5)).trans hx322_5
           replace hx322_6 := (HB.out.cell (World.block_lt_of_cell? w _ hx322_6)).trans hx322_6
           replace hx322_7 := (HB.out.cell (World.block_lt_of_cell? w _ hx322_7)).trans hx322_7
           have HR322_5 := Aside0.mk hi322_5; have HC322_5 := Aside0.mk hl322_5; clear hi322_5 hl322_5; replace p322 := eq_true p322; replace q322 := eq_true q322
           go_upto_if 62 with (first | ((with_reducible refine gate_dst (N := 4) rfl ?_); (try (refine gate_guard (by rfl) ?_; dsimp only)); refine box_q 4 #[.int .i64 0, .int .i64 0, .int .i64 0, .int .i64 0, .int .i64 0, .slice none 0 0, .int .i64 0, .bool false] 24 ?_; intro gb323 hg w35 hbox hb; have BK323 := Aside0.mk (hbox); have GW323 := Aside0.mk ((by rw [hg]; exact (below_size (bw_q HB)) : w.heap.size ≤ gb323)); have GE323 := Aside0.mk ((by rw [hg]; exact (below_size (bw_q HB)) : w.heap.size ≤ gb323)); replace HB := Aside0.mk (below_step (bw_q HB) hb); have NB316_323 := Aside0.mk ((by rw [hg]; exact Nat.ne_of_lt (blk_lt (g := gb316) (o := .cells #[.int .i64 a0_0, .int .i64 a0_1, .int .i64 a0_2, .int .i64 a0_3, .slice A0_4 l0_4.length c0_4, .slice (some ad322) l0_5.length c0_5] 39 (0, 0)) (bk_q BK316)) : gb316 ≠ gb323)); have NB323_316 := Aside0.mk ((by rw [hg]; exact Nat.ne_of_gt (blk_lt (g := gb316) (o := .cells #[.int .i64 a0_0, .int .i64 a0_1, .int .i64 a0_2, .int .i64 a0_3, .slice A0_4 l0_4.length c0_4, .slice (some ad322) l0_5.length c0_5] 39 (0, 0)) (bk_q BK316)) : gb323 ≠ gb316)); replace BK316 := Aside0.mk (blk_below (g := gb316) (bk_q BK316) hb); clear hb hbox hg; have hnb36 := NB323_316.out; have hnc36 := NB316_323.out; have hcz37_0 : w35.cell? ⟨gb323, 0, none⟩ = some (.int .i64 0) := (blk_cell BK323.out 0).trans rfl; have hcz37_1 : w35.cell? ⟨gb323, 1, none⟩ = some (.int .i64 0) := (blk_cell BK323.out 1).trans rfl; have hcz37_2 : w35.cell? ⟨gb323, 2, none⟩ = some (.int .i64 0) := (blk_cell BK323.out 2).trans rfl; have hcz37_3 : w35.cell? ⟨gb323, 3, none⟩ = some (.int .i64 0) := (blk_cell BK323.out 3).trans rfl; have hcz37_4 : w35.cell? ⟨gb323, 4, none⟩ = some (.int .i64 0) := (blk_cell BK323.out 4).trans rfl; have hcz37_5 : w35.cell? ⟨gb323, 5, none⟩ = some (.slice none 0 0) := (blk_cell BK323.out 5).trans rfl; have hcz37_6 : w35.cell? ⟨gb323, 6, none⟩ = some (.int .i64 0) := (blk_cell BK323.out 6).trans rfl; have hcz37_7 : w35.cell? ⟨gb323, 7, none⟩ = some (.bool false) := (blk_cell BK323.out 7).trans rfl; have hfz37_0 := blk_frozen BK323.out 0; have hfz37_1 := blk_frozen BK323.out 1; have hfz37_2 := blk_frozen BK323.out 2; have hfz37_3 := blk_frozen BK323.out 3; have hfz37_4 := blk_frozen BK323.out 4; have hfz37_5 := blk_frozen BK323.out 5; have hfz37_6 := blk_frozen BK323.out 6; have hfz37_7 := blk_frozen BK323.out 7; have hcz38_0 : w35.cell? ⟨gb316, 0, none⟩ = some (.int .i64 a0_0) := (blk_cell BK316.out 0).trans rfl; have hcz38_1 : w35.cell? ⟨gb316, 1, none⟩ = some (.int .i64 a0_1) := (blk_cell BK316.out 1).trans rfl; have hcz38_2 : w35.cell? ⟨gb316, 2, none⟩ = some (.int .i64 a0_2) := (blk_cell BK316.out 2).trans rfl; have hcz38_3 : w35.cell? ⟨gb316, 3, none⟩ = some (.int .i64 a0_3) := (blk_cell BK316.out 3).trans rfl; have hcz38_4 : w35.cell? ⟨gb316, 4, none⟩ = some (.slice A0_4 l0_4.length c0_4) := (blk_cell BK316.out 4).trans rfl; have hcz38_5 : w35.cell? ⟨gb316, 5, none⟩ = some (.slice (some ad322) l0_5.length c0_5) := (blk_cell BK316.out 5).trans rfl; have hfz38_0 := blk_frozen BK316.out 0; have hfz38_1 := blk_frozen BK316.out 1; have hfz38_2 := blk_frozen BK316.out 2; have hfz38_3 := blk_frozen BK316.out 3; have hfz38_4 := blk_frozen BK316.out 4; have hfz38_5 := blk_frozen BK316.out 5))
           have n0_ : Aside0 (((((((((w35.setCell ⟨gb323, 0, none⟩ (.int .i64 ((rd_T24 l0_5 x49_2).f0))).setCell ⟨gb323, 1, none⟩ (.int .i64 ((rd_T24 l0_5 x49_2).f1))).setCell ⟨gb323, 2, none⟩ (.int .i64 ((rd_T24 l0_5 x49_2).f2))).setCell ⟨gb323, 3, none⟩ (.int .i64 ((rd_T24 l0_5 x49_2).f3))).setCell ⟨gb323, 4, none⟩ (.int .i64 ((rd_T24 l0_5 x49_2).f4))).setCell ⟨gb323, 5, none⟩ (.slice A322_5 ((rd_T24 l0_5 x49_2).f5).length c322_5)).setCell ⟨gb323, 6, none⟩ (.int .i64 ((rd_T24 l0_5 x49_2).f6))).setCell ⟨gb323, 7, none⟩ (.bool ((rd_T24 l0_5 x49_2).f7))).heap[gb316]? = some (.cells #[.int .i64 a0_0, .int .i64 a0_1, .int .i64 a0_2, .int .i64 a0_3, .slice A0_4 l0_4.length c0_4, .slice (some ad322) l0_5.length c0_5] 39 (0, 0))) := ⟨by refine bz_ ?_; refine blk_far ?_ NB316_323.out _; refine bz_ ?_; refine blk_far ?_ NB316_323.out _; refine bz_ ?_; refine blk_far ?_ NB316_323.out _; refine bz_ ?_; refine blk_far ?_ NB316_323.out _; refine bz_ ?_; refine blk_far ?_ NB316_323.out _; refine bz_ ?_; refine blk_far ?_ NB316_323.out _; refine bz_ ?_; refine blk_far ?_ NB316_323.out _; refine bz_ ?_; refine blk_far ?_ NB316_323.out _; refine bz_ ?_; exact BK316.out⟩
           have n1_ : Aside0 (((((((((w35.setCell ⟨gb323, 0, none⟩ (.int .i64 ((rd_T24 l0_5 x49_2).f0))).setCell ⟨gb323, 1, none⟩ (.int .i64 ((rd_T24 l0_5 x49_2).f1))).setCell ⟨gb323, 2, none⟩ (.int .i64 ((rd_T24 l0_5 x49_2).f2))).setCell ⟨gb323, 3, none⟩ (.int .i64 ((rd_T24 l0_5 x49_2).f3))).setCell ⟨gb323, 4, none⟩ (.int .i64 ((rd_T24 l0_5 x49_2).f4))).setCell ⟨gb323, 5, none⟩ (.slice A322_5 ((rd_T24 l0_5 x49_2).f5).length c322_5)).setCell ⟨gb323, 6, none⟩ (.int .i64 ((rd_T24 l0_5 x49_2).f6))).setCell ⟨gb323, 7, none⟩ (.bool ((rd_T24 l0_5 x49_2).f7))).heap[gb323]? = some (.cells #[.int .i64 ((rd_T24 l0_5 x49_2).f0), .int .i64 ((rd_T24 l0_5 x49_2).f1), .int .i64 ((rd_T24 l0_5 x49_2).f2), .int .i64 ((rd_T24 l0_5 x49_2).f3), .int .i64 ((rd_T24 l0_5 x49_2).f4), .slice A322_5 ((rd_T24 l0_5 x49_2).f5).length c322_5, .int .i64 ((rd_T24 l0_5 x49_2).f6), .bool ((rd_T24 l0_5 x49_2).f7)] 24 (0, 0))) := ⟨by refine bz_ ?_; refine blk_put (cs := #[.int .i64 ((rd_T24 l0_5 x49_2).f0), .int .i64 ((rd_T24 l0_5 x49_2).f1), .int .i64 ((rd_T24 l0_5 x49_2).f2), .int .i64 ((rd_T24 l0_5 x49_2).f3), .int .i64 ((rd_T24 l0_5 x49_2).f4), .slice A322_5 ((rd_T24 l0_5 x49_2).f5).length c322_5, .int .i64 ((rd_T24 l0_5 x49_2).f6), .bool false]) ?_ 7 _ rfl; refine bz_ ?_; refine blk_put (cs := #[.int .i64 ((rd_T24 l0_5 x49_2).f0), .int .i64 ((rd_T24 l0_5 x49_2).f1), .int .i64 ((rd_T24 l0_5 x49_2).f2), .int .i64 ((rd_T24 l0_5 x49_2).f3), .int .i64 ((rd_T24 l0_5 x49_2).f4), .slice A322_5 ((rd_T24 l0_5 x49_2).f5).length c322_5, .int .i64 0, .bool false]) ?_ 6 _ rfl; refine bz_ ?_; refine blk_put (cs := #[.int .i64 ((rd_T24 l0_5 x49_2).f0), .int .i64 ((rd_T24 l0_5 x49_2).f1), .int .i64 ((rd_T24 l0_5 x49_2).f2), .int .i64 ((rd_T24 l0_5 x49_2).f3), .int .i64 ((rd_T24 l0_5 x49_2).f4), .slice none 0 0, .int .i64 0, .bool false]) ?_ 5 _ rfl; refine bz_ ?_; refine blk_put (cs := #[.int .i64 ((rd_T24 l0_5 x49_2).f0), .int .i64 ((rd_T24 l0_5 x49_2).f1), .int .i64 ((rd_T24 l0_5 x49_2).f2), .int .i64 ((rd_T24 l0_5 x49_2).f3), .int .i64 0, .slice none 0 0, .int .i64 0, .bool false]) ?_ 4 _ rfl; refine bz_ ?_; refine blk_put (cs := #[.int .i64 ((rd_T24 l0_5 x49_2).f0), .int .i64 ((rd_T24 l0_5 x49_2).f1), .int .i64 ((rd_T24 l0_5 x49_2).f2), .int .i64 0, .int .i64 0, .slice none 0 0, .int .i64 0, .bool false]) ?_ 3 _ rfl; refine bz_ ?_; refine blk_put (cs := #[.int .i64 ((rd_T24 l0_5 x49_2).f0), .int .i64 ((rd_T24 l0_5 x49_2).f1), .int .i64 0, .int .i64 0, .int .i64 0, .slice none 0 0, .int .i64 0, .bool false]) ?_ 2 _ rfl; refine bz_ ?_; refine blk_put (cs := #[.int .i64 ((rd_T24 l0_5 x49_2).f0), .int .i64 0, .int .i64 0, .int .i64 0, .int .i64 0, .slice none 0 0, .int .i64 0, .bool false]) ?_ 1 _ rfl; refine bz_ ?_; refine blk_put (cs := #[.int .i64 0, .int .i64 0, .int .i64 0, .int .i64 0, .int .i64 0, .slice none 0 0, .int .i64 0, .bool false]) ?_ 0 _ rfl; refine bz_ ?_; exact BK323.out⟩
           have n2_ : Aside0 (Below w.heap.size w ((((((((w35.setCell ⟨gb323, 0, none⟩ (.int .i64 ((rd_T24 l0_5 x49_2).f0))).setCell ⟨gb323, 1, none⟩ (.int .i64 ((rd_T24 l0_5 x49_2).f1))).setCell ⟨gb323, 2, none⟩ (.int .i64 ((rd_T24 l0_5 x49_2).f2))).setCell ⟨gb323, 3, none⟩ (.int .i64 ((rd_T24 l0_5 x49_2).f3))).setCell ⟨gb323, 4, none⟩ (.int .i64 ((rd_T24 l0_5 x49_2).f4))).setCell ⟨gb323, 5, none⟩ (.slice A322_5 ((rd_T24 l0_5 x49_2).f5).length c322_5)).setCell ⟨gb323, 6, none⟩ (.int .i64 ((rd_T24 l0_5 x49_2).f6))).setCell ⟨gb323, 7, none⟩ (.bool ((rd_T24 l0_5 x49_2).f7)))) := ⟨bw_q HB⟩
           (try clear BK316); (try clear BK323); (try clear HB)
           generalize ((((((((w35.setCell ⟨gb323, 0, none⟩ (.int .i64 ((rd_T24 l0_5 x49_2).f0))).setCell ⟨gb323, 1, none⟩ (.int .i64 ((rd_T24 l0_5 x49_2).f1))).setCell ⟨gb323, 2, none⟩ (.int .i64 ((rd_T24 l0_5 x49_2).f2))).setCell ⟨gb323, 3, none⟩ (.int .i64 ((rd_T24 l0_5 x49_2).f3))).setCell ⟨gb323, 4, none⟩ (.int .i64 ((rd_T24 l0_5 x49_2).f4))).setCell ⟨gb323, 5, none⟩ (.slice A322_5 ((rd_T24 l0_5 x49_2).f5).length c322_5)).setCell ⟨gb323, 6, none⟩ (.int .i64 ((rd_T24 l0_5 x49_2).f6))).setCell ⟨gb323, 7, none⟩ (.bool ((rd_T24 l0_5 x49_2).f7))) = w39 at n0_ n1_ n2_ ⊢
           have BK316 := n0_; have BK323 := n1_; have HB := n2_; clear n0_ n1_ n2_; (try clear hx322_0); (try clear hx322_1); (try clear hx322_2); (try clear hx322_3); (try clear hx322_4); (try clear hx322_5); (try clear hx322_6); (try clear hx322_7); have H := HC34.out; clear HC34
           by_cases c40 : ((rd_T24 l0_5 x49_2).f0) = 9
           ·rw [if_pos c40] at H
            have c40b0 : (((rd_T24 l0_5 x49_2).f0) == 9) = true := beq_iff_eq.mpr c40
            have c40b1 : (((rd_T24 l0_5 x49_2).f0) != 9) = false := bne_eq_false_iff_eq.mpr c40
            clear c40
            (first | rw [c40b0] | rw [c40b1] | (simp only [i64_w, i32_w]; first | rw [c40b0] | rw [c40b1]) | skip)
            have H' := Aside0.mk H; clear H
            go_wp2
            go_roundg k2
            case measure => have := HJ1.out; have := HK2.out; omega
            case rel => exact ⟨(wrap64 (x49_2 + 1)), (by first | rfl | (simp; done) | (simp [*]; done)), H', ⟨by have := HJ1.out; have := HK2.out; omega⟩, ⟨by refine bz_ ?_; exact BK316.out⟩, ⟨bw_q HB⟩⟩
           ·rw [if_neg c40] at H
            have c40b0 : (((rd_T24 l0_5 x49_2).f0) == 9) = false := beq_eq_false_iff_ne.mpr c40
            have c40b1 : (((rd_T24 l0_5 x49_2).f0) != 9) = true := bne_iff_ne.mpr c40
            (first | rw [c40b0] | rw [c40b1] | (simp only [i64_w, i32_w]; first | rw [c40b0] | rw [c40b1]) | skip)
            obtain rfl := Option.some.inj H
            go_wp2
            go_ret
            exact ⟨er_q, bw_q HB⟩
         ·rw [if_neg c26] at H
          exact absurd H (by simp)
        ·rw [if_neg c25] at H
         exact absurd H (by simp)
       ·rw [if_neg c24] at H
        have c24b0 : decide (x49_2 < (l0_5.length : Int)) = false := decide_eq_false c24
        clear c24
        by_cases c41 : (l0_4.length : Int) = 0
        ·rw [if_pos c41] at H
         have c41b0 : ((l0_4.length : Int) == 0) = true := beq_iff_eq.mpr c41
         have c41b1 : ((l0_4.length : Int) != 0) = false := bne_eq_false_iff_eq.mpr c41
         clear c41; replace H := Option.bind_eq_some_iff.mp H; obtain ⟨t324, A420, H⟩ := H
         replace H : (if t324 = true then (if a0_0 = 3 then (some true) else ((impl_sumsOk.f k2 l0_5).bind fun t325 => (some t325))) else (some false)) = some r := H
         have A42 := Aside0.mk A420; clear A420
         by_cases c43 : t324 = true
         ·subst c43
          replace H : (if a0_0 = 3 then (some true) else ((impl_sumsOk.f k2 l0_5).bind fun t325 => (some t325))) = some r := by rw [if_pos rfl] at H; exact H
          by_cases c44 : a0_0 = 3
          ·rw [if_pos c44] at H
           have c44b0 : (a0_0 == 3) = true := beq_iff_eq.mpr c44
           have c44b1 : (a0_0 != 3) = false := bne_eq_false_iff_eq.mpr c44
           clear c44; obtain rfl := Option.some.inj H
           have hcz45_0 : wr.cell? ⟨gb316, 0, none⟩ = some (.int .i64 a0_0) := (blk_cell BK316.out 0).trans rfl
           have hcz45_1 : wr.cell? ⟨gb316, 1, none⟩ = some (.int .i64 a0_1) := (blk_cell BK316.out 1).trans rfl
           have hcz45_2 : wr.cell? ⟨gb316, 2, none⟩ = some (.int .i64 a0_2) := (blk_cell BK316.out 2).trans rfl
           have hcz45_3 : wr.cell? ⟨gb316, 3, none⟩ = some (.int .i64 a0_3) := (blk_cell BK316.out 3).trans rfl
           have hcz45_4 : wr.cell? ⟨gb316, 4, none⟩ = some (.slice A0_4 l0_4.length c0_4) := (blk_cell BK316.out 4).trans rfl
           have hcz45_5 : wr.cell? ⟨gb316, 5, none⟩ = some (.slice A0_5 l0_5.length c0_5) := (blk_cell BK316.out 5).trans rfl
           have hfz45_0 := blk_frozen BK316.out 0; have hfz45_1 := blk_frozen BK316.out 1; have hfz45_2 := blk_frozen BK316.out 2; have hfz45_3 := blk_frozen BK316.out 3; have hfz45_4 := blk_frozen BK316.out 4; have hfz45_5 := blk_frozen BK316.out 5
           go_wp2_with (first | (go_at_call 77; (with_reducible refine (impl_StoreOk.calls k2 _ _ l0_5 true _ ?side1 ?side2 A42.out).mono ?_); (case side1 => exact cs_q (Kd.C_below HR0_5.out HB.out)); (case side2 => exact HC0_5.out); rintro e w46 ⟨rfl, hb⟩; replace BK316 := Aside0.mk (blk_below (g := gb316) (bk_q BK316) hb); replace HB := Aside0.mk (below_step (bw_q HB) hb); (try clear hb); (try clear hb2); (try clear hk); (try clear hi); have hcz47_0 : w46.cell? ⟨gb316, 0, none⟩ = some (.int .i64 a0_0) := (blk_cell BK316.out 0).trans rfl; have hcz47_1 : w46.cell? ⟨gb316, 1, none⟩ = some (.int .i64 a0_1) := (blk_cell BK316.out 1).trans rfl; have hcz47_2 : w46.cell? ⟨gb316, 2, none⟩ = some (.int .i64 a0_2) := (blk_cell BK316.out 2).trans rfl; have hcz47_3 : w46.cell? ⟨gb316, 3, none⟩ = some (.int .i64 a0_3) := (blk_cell BK316.out 3).trans rfl; have hcz47_4 : w46.cell? ⟨gb316, 4, none⟩ = some (.slice A0_4 l0_4.length c0_4) := (blk_cell BK316.out 4).trans rfl; have hcz47_5 : w46.cell? ⟨gb316, 5, none⟩ = some (.slice A0_5 l0_5.length c0_5) := (blk_cell BK316.out 5).trans rfl; have hfz47_0 := blk_frozen BK316.out 0; have hfz47_1 := blk_frozen BK316.out 1; have hfz47_2 := blk_frozen BK316.out 2; have hfz47_3 := blk_frozen BK316.out 3; have hfz47_4 := blk_frozen BK316.out 4; have hfz47_5 := blk_frozen BK316.out 5))
           go_ret
           exact ⟨er_q, bw_q HB⟩
          ·rw [if_neg c44] at H
           have c44b0 : (a0_0 == 3) = false := beq_eq_false_iff_ne.mpr c44
           have c44b1 : (a0_0 != 3) = true := bne_iff_ne.mpr c44
           replace H := Option.bind_eq_some_iff.mp H; obtain ⟨t325, A480, H⟩ := H
           replace H : (some t325) = some r := H
           have A48 := Aside0.mk A480; clear A480; obtain rfl := Option.some.inj H
           have hcz49_0 : wr.cell? ⟨gb316, 0, none⟩ = some (.int .i64 a0_0) := (blk_cell BK316.out 0).trans rfl
           have hcz49_1 : wr.cell? ⟨gb316, 1, none⟩ = some (.int .i64 a0_1) := (blk_cell BK316.out 1).trans rfl
           have hcz49_2 : wr.cell? ⟨gb316, 2, none⟩ = some (.int .i64 a0_2) := (blk_cell BK316.out 2).trans rfl
           have hcz49_3 : wr.cell? ⟨gb316, 3, none⟩ = some (.int .i64 a0_3) := (blk_cell BK316.out 3).trans rfl
           have hcz49_4 : wr.cell? ⟨gb316, 4, none⟩ = some (.slice A0_4 l0_4.length c0_4) := (blk_cell BK316.out 4).trans rfl
           have hcz49_5 : wr.cell? ⟨gb316, 5, none⟩ = some (.slice A0_5 l0_5.length c0_5) := (blk_cell BK316.out 5).trans rfl
           have hfz49_0 := blk_frozen BK316.out 0; have hfz49_1 := blk_frozen BK316.out 1; have hfz49_2 := blk_frozen BK316.out 2; have hfz49_3 := blk_frozen BK316.out 3; have hfz49_4 := blk_frozen BK316.out 4; have hfz49_5 := blk_frozen BK316.out 5
           go_wp2_with (first | (go_at_call 77; (with_reducible refine (impl_StoreOk.calls k2 _ _ l0_5 true _ ?side1 ?side2 A42.out).mono ?_); (case side1 => exact cs_q (Kd.C_below HR0_5.out HB.out)); (case side2 => exact HC0_5.out); rintro e w50 ⟨rfl, hb⟩; replace BK316 := Aside0.mk (blk_below (g := gb316) (bk_q BK316) hb); replace HB := Aside0.mk (below_step (bw_q HB) hb); (try clear hb); (try clear hb2); (try clear hk); (try clear hi); have hcz51_0 : w50.cell? ⟨gb316, 0, none⟩ = some (.int .i64 a0_0) := (blk_cell BK316.out 0).trans rfl; have hcz51_1 : w50.cell? ⟨gb316, 1, none⟩ = some (.int .i64 a0_1) := (blk_cell BK316.out 1).trans rfl; have hcz51_2 : w50.cell? ⟨gb316, 2, none⟩ = some (.int .i64 a0_2) := (blk_cell BK316.out 2).trans rfl; have hcz51_3 : w50.cell? ⟨gb316, 3, none⟩ = some (.int .i64 a0_3) := (blk_cell BK316.out 3).trans rfl; have hcz51_4 : w50.cell? ⟨gb316, 4, none⟩ = some (.slice A0_4 l0_4.length c0_4) := (blk_cell BK316.out 4).trans rfl; have hcz51_5 : w50.cell? ⟨gb316, 5, none⟩ = some (.slice A0_5 l0_5.length c0_5) := (blk_cell BK316.out 5).trans rfl; have hfz51_0 := blk_frozen BK316.out 0; have hfz51_1 := blk_frozen BK316.out 1; have hfz51_2 := blk_frozen BK316.out 2; have hfz51_3 := blk_frozen BK316.out 3; have hfz51_4 := blk_frozen BK316.out 4; have hfz51_5 := blk_frozen BK316.out 5) | (go_at_call 78; (with_reducible refine (impl_sumsOk.calls k2 _ _ l0_5 t325 _ ?side1 ?side2 A48.out).mono ?_); (case side1 => exact cs_q (Kd.C_below HR0_5.out HB.out)); (case side2 => exact HC0_5.out); rintro e w52 ⟨rfl, hb⟩; replace BK316 := Aside0.mk (blk_below (g := gb316) (bk_q BK316) hb); replace HB := Aside0.mk (below_step (bw_q HB) hb); (try clear hb); (try clear hb2); (try clear hk); (try clear hi)))
           go_ret
           exact ⟨er_q, bw_q HB⟩
         ·replace c43 := Bool.eq_false_iff.mpr c43; subst c43
          replace H : (some false) = some r := by rw [if_neg (show ¬ (false = true) by decide)] at H; exact H
          obtain rfl := Option.some.inj H
          have hcz53_0 : wr.cell? ⟨gb316, 0, none⟩ = some (.int .i64 a0_0) := (blk_cell BK316.out 0).trans rfl
          have hcz53_1 : wr.cell? ⟨gb316, 1, none⟩ = some (.int .i64 a0_1) := (blk_cell BK316.out 1).trans rfl
          have hcz53_2 : wr.cell? ⟨gb316, 2, none⟩ = some (.int .i64 a0_2) := (blk_cell BK316.out 2).trans rfl
          have hcz53_3 : wr.cell? ⟨gb316, 3, none⟩ = some (.int .i64 a0_3) := (blk_cell BK316.out 3).trans rfl
          have hcz53_4 : wr.cell? ⟨gb316, 4, none⟩ = some (.slice A0_4 l0_4.length c0_4) := (blk_cell BK316.out 4).trans rfl
          have hcz53_5 : wr.cell? ⟨gb316, 5, none⟩ = some (.slice A0_5 l0_5.length c0_5) := (blk_cell BK316.out 5).trans rfl
          have hfz53_0 := blk_frozen BK316.out 0; have hfz53_1 := blk_frozen BK316.out 1; have hfz53_2 := blk_frozen BK316.out 2; have hfz53_3 := blk_frozen BK316.out 3; have hfz53_4 := blk_frozen BK316.out 4; have hfz53_5 := blk_frozen BK316.out 5
          go_wp2_with (first | (go_at_call 77; (with_reducible refine (impl_StoreOk.calls k2 _ _ l0_5 false _ ?side1 ?side2 A42.out).mono ?_); (case side1 => exact cs_q (Kd.C_below HR0_5.out HB.out)); (case side2 => exact HC0_5.out); rintro e w54 ⟨rfl, hb⟩; replace BK316 := Aside0.mk (blk_below (g := gb316) (bk_q BK316) hb); replace HB := Aside0.mk (below_step (bw_q HB) hb); (try clear hb); (try clear hb2); (try clear hk); (try clear hi)))
          go_ret
          exact ⟨er_q, bw_q HB⟩
        ·rw [if_neg c41] at H
         have c41b0 : ((l0_4.length : Int) == 0) = false := beq_eq_false_iff_ne.mpr c41
         have c41b1 : ((l0_4.length : Int) != 0) = true := bne_iff_ne.mpr c41
         have c41b2 : ¬ (l0_4 = []) := fun h_ => c41 (by rw [h_]; rfl)
         obtain rfl := Option.some.inj H
         have hcz55_0 : wr.cell? ⟨gb316, 0, none⟩ = some (.int .i64 a0_0) := (blk_cell BK316.out 0).trans rfl
         have hcz55_1 : wr.cell? ⟨gb316, 1, none⟩ = some (.int .i64 a0_1) := (blk_cell BK316.out 1).trans rfl
         have hcz55_2 : wr.cell? ⟨gb316, 2, none⟩ = some (.int .i64 a0_2) := (blk_cell BK316.out 2).trans rfl
         have hcz55_3 : wr.cell? ⟨gb316, 3, none⟩ = some (.int .i64 a0_3) := (blk_cell BK316.out 3).trans rfl
         have hcz55_4 : wr.cell? ⟨gb316, 4, none⟩ = some (.slice A0_4 l0_4.length c0_4) := (blk_cell BK316.out 4).trans rfl
         have hcz55_5 : wr.cell? ⟨gb316, 5, none⟩ = some (.slice A0_5 l0_5.length c0_5) := (blk_cell BK316.out 5).trans rfl
         have hfz55_0 := blk_frozen BK316.out 0; have hfz55_1 := blk_frozen BK316.out 1; have hfz55_2 := blk_frozen BK316.out 2; have hfz55_3 := blk_frozen BK316.out 3; have hfz55_4 := blk_frozen BK316.out 4; have hfz55_5 := blk_frozen BK316.out 5
         go_wp2
         go_ret
         exact ⟨er_q, bw_q HB⟩

end Go.Proofs.Ytnecbkognpponaa.Q
