import Derived.Test.YtnecbkognpponaaXPacketOkQT
import Derived.Test.YtnecbkognpponaaXPacketOkQspecRecordOk
import Derived.Test.YtnecbkognpponaaXPacketOkQspecBefore
/- A Go function as a Lean function, and its contract: for every input the Go code comes to what the Lean function tells. -/



namespace Go.Proofs.Ytnecbkognpponaa.Q
open Go.RowKit Go.Proofs.YtnecbkognpponaaW.PrintWords Go.Proofs.YtnecbkognpponaaW.PrintLast Go.Proofs.YtnecbkognpponaaW.PrintMore
attribute [local go_sem] max2_int min2_int max_two min_two max_three min_three max_four min_four   -- for this text's walks alone
set_option linter.unusedVariables false
set_option linter.unusedSimpArgs false

/-! ### spec_StoreOk: function 72 -/
def spec_StoreOk.l0 : Nat → List (S24) → Int → Option (Bool)
 | 0, _, _ => none
 | k + 1, x0, x3 => if x3 < (x0.length : Int) then (if 0 ≤ x3 then ((spec_RecordOk.f k ((rd_T24 x0 x3).f0) ((rd_T24 x0 x3).f1) ((rd_T24 x0 x3).f2) ((rd_T24 x0 x3).f3) ((rd_T24 x0 x3).f4) ((rd_T24 x0 x3).f5) ((rd_T24 x0 x3).f6) ((rd_T24 x0 x3).f7)).bind fun t189 => (if t189 = true then (if x3 > 0 then (if 0 ≤ (wrap64 (x3 - 1)) then (if (wrap64 (x3 - 1)) < (x0.length : Int) then ((spec_Before.f ((rd_T24 x0 (wrap64 (x3 - 1))).f0) ((rd_T24 x0 (wrap64 (x3 - 1))).f1) ((rd_T24 x0 (wrap64 (x3 - 1))).f2) ((rd_T24 x0 (wrap64 (x3 - 1))).f3) ((rd_T24 x0 (wrap64 (x3 - 1))).f4) ((rd_T24 x0 (wrap64 (x3 - 1))).f5) ((rd_T24 x0 (wrap64 (x3 - 1))).f6) ((rd_T24 x0 (wrap64 (x3 - 1))).f7) ((rd_T24 x0 x3).f0) ((rd_T24 x0 x3).f1) ((rd_T24 x0 x3).f2) ((rd_T24 x0 x3).f3) ((rd_T24 x0 x3).f4) ((rd_T24 x0 x3).f5) ((rd_T24 x0 x3).f6) ((rd_T24 x0 x3).f7)).bind fun t191 => (if t191 = true then (spec_StoreOk.l0 k x0 (wrap64 (x3 + 1))) else (some false))) else (none)) else (none)) else (spec_StoreOk.l0 k x0 (wrap64 (x3 + 1)))) else (some false))) else (none)) else (some true)
def spec_StoreOk.f (k : Nat) (l0 : List (S24)) : Option (Bool) := if (l0.length : Int) > 150 then (some false) else (spec_StoreOk.l0 k l0 0)
theorem spec_StoreOk.mono_l : ∀ k, (∀ y0 y1, LeO (spec_StoreOk.l0 k y0 y1) (spec_StoreOk.l0 (k + 1) y0 y1))
 | 0 => fun _ _ r h => by simp [spec_StoreOk.l0] at h
 | k + 1 => by
  have ih0 := spec_StoreOk.mono_l k
  ·intro y0 y1
   unfold spec_StoreOk.l0
   repeat' first
   | (with_reducible exact ih0 _ _)
   | (with_reducible exact spec_RecordOk.mono _ _ _ _ _ _ _ _ _)
   | (with_reducible exact LeO.refl _)
   | (with_reducible exact LeO.none _)
   | (with_reducible refine LeO.ite ?_ ?_)
   | (with_reducible refine LeO.bind ?_ (fun _ => ?_))
   | exact ih0 _ _
   | exact spec_RecordOk.mono _ _ _ _ _ _ _ _ _
   | exact LeO.none _
   | refine LeO.ite ?_ ?_
   | refine LeO.bind ?_ (fun _ => ?_)
theorem spec_StoreOk.mono : ∀ a0 k, LeO (spec_StoreOk.f k a0) (spec_StoreOk.f (k + 1) a0) := by
 intro a0 k
 have ih0 := spec_StoreOk.mono_l k
 unfold spec_StoreOk.f
 repeat' first
   | (with_reducible exact ih0 _ _)
   | (with_reducible exact spec_RecordOk.mono _ _ _ _ _ _ _ _ _)
   | (with_reducible exact LeO.refl _)
   | (with_reducible exact LeO.none _)
   | (with_reducible refine LeO.ite ?_ ?_)
   | (with_reducible refine LeO.bind ?_ (fun _ => ?_))
   | exact ih0 _ _
   | exact spec_RecordOk.mono _ _ _ _ _ _ _ _ _
   | exact LeO.none _
   | refine LeO.ite ?_ ?_
   | refine LeO.bind ?_ (fun _ => ?_)
def spec_StoreOk.T6 : Bool × List (List Nat × List Nat) := (true, [([], []), ([], []), ([0, 1], [0, 1]), ([2], [2]), ([3], [3]), ([4], [4]), ([5, 4], [5]), ([6], [6]), ([7, 6], [6, 7]), ([8, 6, 6], [6, 8]), ([9], [9]), ([9], [9]), ([11, 9], [9, 11]), ([10, 12, 9], [9, 10, 12]), ([13, 9], [9, 13]), ([9], [9]), ([9], [9]), ([15, 16, 9], [9, 15, 16]), ([17, 9], [9, 17]), ([14, 18, 9, 9], [9, 14, 18]), ([19, 9], [9, 19]), ([9, 20, 6], [6, 9, 20]), ([6, 21], [6, 21])])
def spec_StoreOk.B6 : List Nat := [0, 0, 3, 7, 15, 31, 63, 127, 255, 511, 1023, 1023, 3071, 8191, 16383, 1023, 1023, 99327, 230399, 524287, 1048575, 2097151, 4194303]
theorem spec_StoreOk.tab6 : rtab .any (opsOf Try.f72 6) = spec_StoreOk.T6 := by kernel_rfl
theorem spec_StoreOk.bits6 : waitsOk spec_StoreOk.T6.2 spec_StoreOk.B6 = true := by kernel_rfl
set_option maxHeartbeats 8000000 in
set_option maxRecDepth 100000 in
theorem spec_StoreOk.calls (k : Nat) (A0 : Option Addr) (c0 : Nat) (l0 : List (S24)) (r : Bool) (w : World) (hr0 : Kd.C k24 w A0 l0.length l0) (hc0 : l0.length ≤ c0) (h : spec_StoreOk.f k l0 = some r) :
  Calls Try.prog 72 #[.slice A0 l0.length c0] w fun e w' => e = .returned (.bool r) ∧ Below w.heap.size w w' := by
 have hu24 := Try.underlying24
 have HR0 := Aside0.mk hr0
 have HC0 := Aside0.mk hc0
 clear hr0 hc0
 have HB := Aside0.mk (Below.refl w.heap.size w)
 have H : (if (l0.length : Int) > 150 then (some false) else (spec_StoreOk.l0 k l0 0)) = some r := h
 clear h
 by_cases c2 : (l0.length : Int) > 150
 ·rw [if_pos c2] at H
  have c2b0 : decide (150 < (l0.length : Int)) = true := decide_eq_true c2
  have c2b1 : decide (150 < l0.length) = true := decide_eq_true (by omega)
  clear c2
  obtain rfl := Option.some.inj H
  go_enter Try.func72, Try.ntmps72
  go_wp2
  go_ret
  exact ⟨er_q, bw_q HB⟩
 ·rw [if_neg c2] at H
  have c2b0 : decide (150 < (l0.length : Int)) = false := decide_eq_false c2
  have c2b1 : decide (150 < l0.length) = false := decide_eq_false (by omega)
  clear c2
  have H' := Aside0.mk H
  clear H
  go_enter Try.func72, Try.ntmps72
  go_wp2
  go_loopg [3] k (fun kq v3 w' => ∃ (x3_1 : Int), v3 = .int .i64 x3_1 ∧ Aside0 (spec_StoreOk.l0 kq l0 x3_1 = some r) ∧ Aside0 (kq ≤ k) ∧ Aside0 (Below w.heap.size w w'))
  case atStart => exact ⟨(0), (by first | rfl | (simp; done) | (simp [*]; done)), H', ⟨Nat.le_refl _⟩, ⟨bw_q HB⟩⟩
  case round =>
   clear H'
   try clear c2
   try clear c2b0
   try clear c2b1
   try clear p2
   obtain ⟨x3_1, rfl, HA, HK1, HB⟩ := hrel
   cases gk with
   | zero => exact absurd HA.out (by simp [spec_StoreOk.l0])
   | succ k1 =>
    have H := HA.out
    clear HA
    simp only [spec_StoreOk.l0] at H
    by_cases c3 : x3_1 < (l0.length : Int)
    ·rw [if_pos c3] at H
     have c3b0 : decide (x3_1 < (l0.length : Int)) = true := decide_eq_true c3
     clear c3
     by_cases c4 : 0 ≤ x3_1
     ·rw [if_pos c4] at H
      have c4b0 : decide (0 ≤ x3_1) = true := decide_eq_true c4
      clear c4
      replace H := Option.bind_eq_some_iff.mp H
      obtain ⟨t189, A50, H⟩ := H
      replace H : (if t189 = true then (if x3_1 > 0 then (if 0 ≤ (wrap64 (x3_1 - 1)) then (if (wrap64 (x3_1 - 1)) < (l0.length : Int) then ((spec_Before.f ((rd_T24 l0 (wrap64 (x3_1 - 1))).f0) ((rd_T24 l0 (wrap64 (x3_1 - 1))).f1) ((rd_T24 l0 (wrap64 (x3_1 - 1))).f2) ((rd_T24 l0 (wrap64 (x3_1 - 1))).f3) ((rd_T24 l0 (wrap64 (x3_1 - 1))).f4) ((rd_T24 l0 (wrap64 (x3_1 - 1))).f5) ((rd_T24 l0 (wrap64 (x3_1 - 1))).f6) ((rd_T24 l0 (wrap64 (x3_1 - 1))).f7) ((rd_T24 l0 x3_1).f0) ((rd_T24 l0 x3_1).f1) ((rd_T24 l0 x3_1).f2) ((rd_T24 l0 x3_1).f3) ((rd_T24 l0 x3_1).f4) ((rd_T24 l0 x3_1).f5) ((rd_T24 l0 x3_1).f6) ((rd_T24 l0 x3_1).f7)).bind fun t191 => (if t191 = true then (spec_StoreOk.l0 k1 l0 (wrap64 (x3_1 + 1))) else (some false))) else (none)) else (none)) else (spec_StoreOk.l0 k1 l0 (wrap64 (x3_1 + 1)))) else (some false)) = some r := H
      have A5 := Aside0.mk A50
      clear A50
      have HZ22 := Aside0.mk H
      clear H
      try go_wp2
      replace HB := Aside0.mk (below_drew1 HB.out)
      have p188 : 0 ≤ (x3_1 : Int) := of_decide_eq_true as_q
      have q188 : x3_1 < (l0.length : Int) := of_decide_eq_true as_q
      obtain ⟨ad188, A188_5, c188_5, e188, hx188_0, hx188_1, hx188_2, hx188_3, hx188_4, hx188_5, hx188_6, hx188_7, hl188_5, hi188_5⟩ := at_T24 HR0.out x3_1 p188 q188
      have hw188_7 := hx188_7
      have hw188_6 := hx188_6
      have hw188_5 := hx188_5
      have hw188_4 := hx188_4
      have hw188_3 := hx188_3
      have hw188_2 := hx188_2
      have hw188_1 := hx188_1
      have hw188_0 := hx188_0
      cases e188
      replace hx188_0 := (HB.out.cell (World.block_lt_of_cell? w _ hx188_0)).trans hx188_0
      replace hx188_1 := (HB.out.cell (World.block_lt_of_cell? w _ hx188_1)).trans hx188_1
      replace hx188_2 := (HB.out.cell (World.block_lt_of_cell? w _ hx188_2)).trans hx188_2
      replace hx188_3 := (HB.out.cell (World.block_lt_of_cell? w _ hx188_3)).trans hx188_3
      replace hx188_4 := (HB.out.cell (World.block_lt_of_cell? w _ hx188_4)).trans hx188_4
      replace hx188_5 := (HB.out.cell (World.block_lt_of_cell? w _ hx188_5)).trans hx188_5
      replace hx188_6 := (HB.out.cell (World.block_lt_of_cell? w _ hx188_6)).trans hx188_6
      replace hx188_7 := (HB.out.cell (World.block_lt_of_cell? w _ hx188_7)).trans hx188_7
      have HR188_5 := Aside0.mk hi188_5
      have HC188_5 := Aside0.mk hl188_5
      clear hi188_5 hl188_5
      replace p188 := eq_true p188
      replace q188 := eq_true q188
      refine start_ (n := 23) (S := fun w' => w'.cell? (ad188.add ((x3_1).toNat * 8)) = some (.int .i64 ((rd_T24 l0 x3_1).f0)) ∧ w'.cell? ⟨(ad188.add ((x3_1).toNat * 8)).block, (ad188.add ((x3_1).toNat * 8)).off + 1, none⟩ = some (.int .i64 ((rd_T24 l0 x3_1).f1)) ∧ w'.cell? ⟨(ad188.add ((x3_1).toNat * 8)).block, (ad188.add ((x3_1).toNat * 8)).off + 2, none⟩ = some (.int .i64 ((rd_T24 l0 x3_1).f2)) ∧ w'.cell? ⟨(ad188.add ((x3_1).toNat * 8)).block, (ad188.add ((x3_1).toNat * 8)).off + 3, none⟩ = some (.int .i64 ((rd_T24 l0 x3_1).f3)) ∧ w'.cell? ⟨(ad188.add ((x3_1).toNat * 8)).block, (ad188.add ((x3_1).toNat * 8)).off + 4, none⟩ = some (.int .i64 ((rd_T24 l0 x3_1).f4)) ∧ w'.cell? ⟨(ad188.add ((x3_1).toNat * 8)).block, (ad188.add ((x3_1).toNat * 8)).off + 5, none⟩ = some (.slice A188_5 ((rd_T24 l0 x3_1).f5).length c188_5) ∧ w'.cell? ⟨(ad188.add ((x3_1).toNat * 8)).block, (ad188.add ((x3_1).toNat * 8)).off + 6, none⟩ = some (.int .i64 ((rd_T24 l0 x3_1).f6)) ∧ w'.cell? ⟨(ad188.add ((x3_1).toNat * 8)).block, (ad188.add ((x3_1).toNat * 8)).off + 7, none⟩ = some (.bool ((rd_T24 l0 x3_1).f7))) (ds := []) (bL 23 0) (by kernel_rfl) rfl rfl ⟨((HB.out.cell (World.block_lt_of_cell? w _ hw188_0)).trans hw188_0), ((HB.out.cell (World.block_lt_of_cell? w _ hw188_1)).trans hw188_1), ((HB.out.cell (World.block_lt_of_cell? w _ hw188_2)).trans hw188_2), ((HB.out.cell (World.block_lt_of_cell? w _ hw188_3)).trans hw188_3), ((HB.out.cell (World.block_lt_of_cell? w _ hw188_4)).trans hw188_4), ((HB.out.cell (World.block_lt_of_cell? w _ hw188_5)).trans hw188_5), ((HB.out.cell (World.block_lt_of_cell? w _ hw188_6)).trans hw188_6), ((HB.out.cell (World.block_lt_of_cell? w _ hw188_7)).trans hw188_7)⟩ (fun hHeld => ?_); refine with_tabW spec_StoreOk.tab6 spec_StoreOk.bits6 (fun HT_ HW_ => ?_)
      generalize wr.drew = w13 at HB HR188_5 hx188_0 hx188_1 hx188_2 hx188_3 hx188_4 hx188_5 hx188_6 hx188_7 hHeld ⊢
      refine pq_ 0 13 (bL 23 1) HT_.out rfl rfl ?_
      refine pq_ 1 14 (bL 23 3) HT_.out rfl rfl ?_
      refine pq_ 2 15 (bL 23 7) HT_.out rfl rfl ?_
      refine take_ (i := 3) (N := some 16) (v := ?_) (a' := ?_) (bL 23 15) rfl rfl (take_ofW HT_.out HW_.out (by kernel_rfl)) (fun _ _ _ h => h) (Or.inl ⟨by rfl, ?_⟩) hHeld ?_ ?_; rotate_left; (rintro w' ⟨s0, s1, s2, s3, s4, s5, s6, s7⟩; go_simp; with_reducible rfl); rotate_left; (exact put_q)
      refine one_ (i := 4) (N := some 17) (bL 23 31) rfl rfl (one_of HT_.out (by kernel_rfl)) (by decide) (fun K hK => ?_)
      refine goes_ Try.func26 (by kernel_rfl) rfl #[.agg #[.int .i64 ((rd_T24 l0 x3_1).f0), .int .i64 ((rd_T24 l0 x3_1).f1), .int .i64 ((rd_T24 l0 x3_1).f2), .int .i64 ((rd_T24 l0 x3_1).f3), .int .i64 ((rd_T24 l0 x3_1).f4), .slice A188_5 ((rd_T24 l0 x3_1).f5).length c188_5, .int .i64 ((rd_T24 l0 x3_1).f6), .bool ((rd_T24 l0 x3_1).f7)]] (by rfl) rfl rfl mp_q ?_
      with_reducible refine (spec_RecordOk.calls k1 ((rd_T24 l0 x3_1).f0) ((rd_T24 l0 x3_1).f1) ((rd_T24 l0 x3_1).f2) ((rd_T24 l0 x3_1).f3) ((rd_T24 l0 x3_1).f4) _ _ ((rd_T24 l0 x3_1).f5) ((rd_T24 l0 x3_1).f6) ((rd_T24 l0 x3_1).f7) t189 _ ?side1 ?side2 A5.out).mono ?_
      (case side1 => exact cs_q (Kd.C_below HR188_5.out HB.out))
      (case side2 => exact HC188_5.out)
      rintro e w14 ⟨rfl, hb⟩
      refine ⟨_, rfl, ?_⟩
      replace HB := Aside0.mk (below_step (bw_q HB) hb)
      (try clear hb)
      (try clear hb2)
      (try clear hk)
      (try clear hi)
      refine hK.out _ _ ⟨((HB.out.cell (World.block_lt_of_cell? w _ hw188_0)).trans hw188_0), ((HB.out.cell (World.block_lt_of_cell? w _ hw188_1)).trans hw188_1), ((HB.out.cell (World.block_lt_of_cell? w _ hw188_2)).trans hw188_2), ((HB.out.cell (World.block_lt_of_cell? w _ hw188_3)).trans hw188_3), ((HB.out.cell (World.block_lt_of_cell? w _ hw188_4)).trans hw188_4), ((HB.out.cell (World.block_lt_of_cell? w _ hw188_5)).trans hw188_5), ((HB.out.cell (World.block_lt_of_cell? w _ hw188_6)).trans hw188_6), ((HB.out.cell (World.block_lt_of_cell? w _ hw188_7)).trans hw188_7)⟩ (fun hHeld => ?_)
      clear hK K
      refine norm_ (a' := ?_) ?_ ?_; rotate_left; (show Act.put _ (some 17) _ = _; simp only [Act.put, List.setIfInBounds_toArray, List.set_cons_zero, List.set_cons_succ, i64_w, i32_w]; rfl)
      refine pq_ 5 18 (bL 23 63) HT_.out rfl rfl ?_
      refine pq_ 6 19 (bL 23 127) HT_.out rfl rfl ?_
      have H := HZ22.out
      clear HZ22
      by_cases c6 : t189 = true
      ·subst c6
       have H1 : (if x3_1 > 0 then (if 0 ≤ (wrap64 (x3_1 - 1)) then (if (wrap64 (x3_1 - 1)) < (l0.length : Int) then ((spec_Before.f ((rd_T24 l0 (wrap64 (x3_1 - 1))).f0) ((rd_T24 l0 (wrap64 (x3_1 - 1))).f1) ((rd_T24 l0 (wrap64 (x3_1 - 1))).f2) ((rd_T24 l0 (wrap64 (x3_1 - 1))).f3) ((rd_T24 l0 (wrap64 (x3_1 - 1))).f4) ((rd_T24 l0 (wrap64 (x3_1 - 1))).f5) ((rd_T24 l0 (wrap64 (x3_1 - 1))).f6) ((rd_T24 l0 (wrap64 (x3_1 - 1))).f7) ((rd_T24 l0 x3_1).f0) ((rd_T24 l0 x3_1).f1) ((rd_T24 l0 x3_1).f2) ((rd_T24 l0 x3_1).f3) ((rd_T24 l0 x3_1).f4) ((rd_T24 l0 x3_1).f5) ((rd_T24 l0 x3_1).f6) ((rd_T24 l0 x3_1).f7)).bind fun t191 => (if t191 = true then (spec_StoreOk.l0 k1 l0 (wrap64 (x3_1 + 1))) else (some false))) else (none)) else (none)) else (spec_StoreOk.l0 k1 l0 (wrap64 (x3_1 + 1)))) = some r := by rw [if_pos rfl] at H; exact H
       clear H
       have H := H1
       clear H1
       have HZ23 := Aside0.mk H
       clear H
       refine pq_ 7 20 (bL 23 255) HT_.out rfl rfl ?_
       refine pq_ 8 21 (bL 23 511) HT_.out rfl rfl ?_
       refine pq_ 9 22 (bL 23 1023) HT_.out rfl rfl ?_
       have H := HZ23.out
       clear HZ23
       by_cases c7 : x3_1 > 0
       ·rw [if_pos c7] at H
        have c7b0 : decide (0 < x3_1) = true := decide_eq_true c7
        (first | rw [c7b0] | (simp only [i64_w, i32_w]; first | rw [c7b0]) | skip)
        clear c7
        obtain ⟨ji8, hji8⟩ : ∃ j_ : Int, (wrap64 (x3_1 - 1)) = j_ := ⟨_, rfl⟩
        replace H : (if 0 ≤ (ji8) then (if (ji8) < (l0.length : Int) then ((spec_Before.f ((rd_T24 l0 (ji8)).f0) ((rd_T24 l0 (ji8)).f1) ((rd_T24 l0 (ji8)).f2) ((rd_T24 l0 (ji8)).f3) ((rd_T24 l0 (ji8)).f4) ((rd_T24 l0 (ji8)).f5) ((rd_T24 l0 (ji8)).f6) ((rd_T24 l0 (ji8)).f7) ((rd_T24 l0 x3_1).f0) ((rd_T24 l0 x3_1).f1) ((rd_T24 l0 x3_1).f2) ((rd_T24 l0 x3_1).f3) ((rd_T24 l0 x3_1).f4) ((rd_T24 l0 x3_1).f5) ((rd_T24 l0 x3_1).f6) ((rd_T24 l0 x3_1).f7)).bind fun t191 => (if t191 = true then (spec_StoreOk.l0 k1 l0 (wrap64 (x3_1 + 1))) else (some false))) else (none)) else (none)) = some r := by first | (rw [hji8] at H; exact H) | (simp only [hji8] at H ⊢; exact H)
        (try rw [hji8] at A5)
        have hji8w : (IntKind.i64.wrap (x3_1 - 1)) = ji8 := (i64_w _).trans hji8
        by_cases c9 : 0 ≤ (ji8)
        ·rw [if_pos c9] at H
         have c9b0 : decide (0 ≤ (ji8)) = true := decide_eq_true c9
         clear c9
         by_cases c10 : (ji8) < (l0.length : Int)
         ·rw [if_pos c10] at H
          have c10b0 : decide ((ji8) < (l0.length : Int)) = true := decide_eq_true c10
          clear c10
          replace H := Option.bind_eq_some_iff.mp H
          obtain ⟨t191, A110, H⟩ := H
          replace H : (if t191 = true then (spec_StoreOk.l0 k1 l0 (wrap64 (x3_1 + 1))) else (some false)) = some r := H
          have A11 := Aside0.mk A110
          clear A110
          have HZ24 := Aside0.mk H
          clear H
          have p190 : 0 ≤ ((ji8) : Int) := of_decide_eq_true as_q
          have q190 : (ji8) < (l0.length : Int) := of_decide_eq_true as_q
          obtain ⟨ad190, A190_5, c190_5, e190, hx190_0, hx190_1, hx190_2, hx190_3, hx190_4, hx190_5, hx190_6, hx190_7, hl190_5, hi190_5⟩ := at_T24 HR0.out (ji8) p190 q190
          have hw190_7 := hx190_7
          have hw190_6 := hx190_6
          have hw190_5 := hx190_5
          have hw190_4 := hx190_4
          have hw190_3 := hx190_3
          have hw190_2 := hx190_2
          have hw190_1 := hx190_1
          have hw190_0 := hx190_0
          obtain rfl : ad188 = ad190 := (by injection e190)
          replace hx190_0 := (HB.out.cell (World.block_lt_of_cell? w _ hx190_0)).trans hx190_0
          replace hx190_1 := (HB.out.cell (World.block_lt_of_cell? w _ hx190_1)).trans hx190_1
          replace hx190_2 := (HB.out.cell (World.block_lt_of_cell? w _ hx190_2)).trans hx190_2
          replace hx190_3 := (HB.out.cell (World.block_lt_of_cell? w _ hx190_3)).trans hx190_3
          replace hx190_4 := (HB.out.cell (World.block_lt_of_cell? w _ hx190_4)).trans hx190_4
          replace hx190_5 := (HB.out.cell (World.block_lt_of_cell? w _ hx190_5)).trans hx190_5
          replace hx190_6 := (HB.out.cell (World.block_lt_of_cell? w _ hx190_6)).trans hx190_6
          replace hx190_7 := (HB.out.cell (World.block_lt_of_cell? w _ hx190_7)).trans hx190_7
          have HR190_5 := Aside0.mk hi190_5
          have HC190_5 := Aside0.mk hl190_5
          clear hi190_5 hl190_5
          replace p190 := eq_true p190
          replace q190 := eq_true q190
          refine last_weaken (fun w' => w'.cell? (ad188.add ((x3_1).toNat * 8)) = some (.int .i64 ((rd_T24 l0 x3_1).f0)) ∧ w'.cell? ⟨(ad188.add ((x3_1).toNat * 8)).block, (ad188.add ((x3_1).toNat * 8)).off + 1, none⟩ = some (.int .i64 ((rd_T24 l0 x3_1).f1)) ∧ w'.cell? ⟨(ad188.add ((x3_1).toNat * 8)).block, (ad188.add ((x3_1).toNat * 8)).off + 2, none⟩ = some (.int .i64 ((rd_T24 l0 x3_1).f2)) ∧ w'.cell? ⟨(ad188.add ((x3_1).toNat * 8)).block, (ad188.add ((x3_1).toNat * 8)).off + 3, none⟩ = some (.int .i64 ((rd_T24 l0 x3_1).f3)) ∧ w'.cell? ⟨(ad188.add ((x3_1).toNat * 8)).block, (ad188.add ((x3_1).toNat * 8)).off + 4, none⟩ = some (.int .i64 ((rd_T24 l0 x3_1).f4)) ∧ w'.cell? ⟨(ad188.add ((x3_1).toNat * 8)).block, (ad188.add ((x3_1).toNat * 8)).off + 5, none⟩ = some (.slice A188_5 ((rd_T24 l0 x3_1).f5).length c188_5) ∧ w'.cell? ⟨(ad188.add ((x3_1).toNat * 8)).block, (ad188.add ((x3_1).toNat * 8)).off + 6, none⟩ = some (.int .i64 ((rd_T24 l0 x3_1).f6)) ∧ w'.cell? ⟨(ad188.add ((x3_1).toNat * 8)).block, (ad188.add ((x3_1).toNat * 8)).off + 7, none⟩ = some (.bool ((rd_T24 l0 x3_1).f7)) ∧ w'.cell? (ad188.add (((ji8)).toNat * 8)) = some (.int .i64 ((rd_T24 l0 (ji8)).f0)) ∧ w'.cell? ⟨(ad188.add (((ji8)).toNat * 8)).block, (ad188.add (((ji8)).toNat * 8)).off + 1, none⟩ = some (.int .i64 ((rd_T24 l0 (ji8)).f1)) ∧ w'.cell? ⟨(ad188.add (((ji8)).toNat * 8)).block, (ad188.add (((ji8)).toNat * 8)).off + 2, none⟩ = some (.int .i64 ((rd_T24 l0 (ji8)).f2)) ∧ w'.cell? ⟨(ad188.add (((ji8)).toNat * 8)).block, (ad188.add (((ji8)).toNat * 8)).off + 3, none⟩ = some (.int .i64 ((rd_T24 l0 (ji8)).f3)) ∧ w'.cell? ⟨(ad188.add (((ji8)).toNat * 8)).block, (ad188.add (((ji8)).toNat * 8)).off + 4, none⟩ = some (.int .i64 ((rd_T24 l0 (ji8)).f4)) ∧ w'.cell? ⟨(ad188.add (((ji8)).toNat * 8)).block, (ad188.add (((ji8)).toNat * 8)).off + 5, none⟩ = some (.slice A190_5 ((rd_T24 l0 (ji8)).f5).length c190_5) ∧ w'.cell? ⟨(ad188.add (((ji8)).toNat * 8)).block, (ad188.add (((ji8)).toNat * 8)).off + 6, none⟩ = some (.int .i64 ((rd_T24 l0 (ji8)).f6)) ∧ w'.cell? ⟨(ad188.add (((ji8)).toNat * 8)).block, (ad188.add (((ji8)).toNat * 8)).off + 7, none⟩ = some (.bool ((rd_T24 l0 (ji8)).f7))) (fun w' h_ => ⟨h_.1, h_.2.1, h_.2.2.1, h_.2.2.2.1, h_.2.2.2.2.1, h_.2.2.2.2.2.1, h_.2.2.2.2.2.2.1, h_.2.2.2.2.2.2.2.1⟩) ⟨hHeld.1, hHeld.2.1, hHeld.2.2.1, hHeld.2.2.2.1, hHeld.2.2.2.2.1, hHeld.2.2.2.2.2.1, hHeld.2.2.2.2.2.2.1, hHeld.2.2.2.2.2.2.2, (by first | assumption | exact ((HB.out.cell (World.block_lt_of_cell? w _ hw190_0)).trans hw190_0)), (by first | assumption | exact ((HB.out.cell (World.block_lt_of_cell? w _ hw190_1)).trans hw190_1)), (by first | assumption | exact ((HB.out.cell (World.block_lt_of_cell? w _ hw190_2)).trans hw190_2)), (by first | assumption | exact ((HB.out.cell (World.block_lt_of_cell? w _ hw190_3)).trans hw190_3)), (by first | assumption | exact ((HB.out.cell (World.block_lt_of_cell? w _ hw190_4)).trans hw190_4)), (by first | assumption | exact ((HB.out.cell (World.block_lt_of_cell? w _ hw190_5)).trans hw190_5)), (by first | assumption | exact ((HB.out.cell (World.block_lt_of_cell? w _ hw190_6)).trans hw190_6)), (by first | assumption | exact ((HB.out.cell (World.block_lt_of_cell? w _ hw190_7)).trans hw190_7))⟩ (fun hHeld => ?_)
          refine pq_ 10 23 (bL 23 2047) HT_.out rfl rfl ?_
          refine pq_ 11 24 (bL 23 4095) HT_.out rfl rfl ?_
          refine pq_ 12 25 (bL 23 8191) HT_.out rfl rfl ?_
          refine pq_ 13 26 (bL 23 16383) HT_.out rfl rfl ?_
          refine pq_ 15 28 (bL 23 49151) HT_.out rfl rfl ?_
          refine pq_ 16 29 (bL 23 114687) HT_.out rfl rfl ?_
          refine pq_ 17 30 (bL 23 245759) HT_.out rfl rfl ?_
          refine take_ (i := 14) (N := some 27) (v := ?_) (a' := ?_) (bL 23 262143) rfl rfl (take_ofW HT_.out HW_.out (by kernel_rfl)) (fun _ _ _ h => h) (Or.inl ⟨by rfl, ?_⟩) hHeld ?_ ?_; rotate_left; (rintro w' ⟨s0, s1, s2, s3, s4, s5, s6, s7, s8, s9, s10, s11, s12, s13, s14, s15⟩; go_simp; with_reducible rfl); rotate_left; (exact put_q)
          refine take_ (i := 18) (N := some 31) (v := ?_) (a' := ?_) (bL 23 524287) rfl rfl (take_ofW HT_.out HW_.out (by kernel_rfl)) (fun _ _ _ h => h) (Or.inl ⟨by rfl, ?_⟩) hHeld ?_ ?_; rotate_left; (rintro w' ⟨s0, s1, s2, s3, s4, s5, s6, s7, s8, s9, s10, s11, s12, s13, s14, s15⟩; go_simp; with_reducible rfl); rotate_left; (exact put_q)
          refine one_ (i := 19) (N := some 32) (bL 23 1048575) rfl rfl (one_of HT_.out (by kernel_rfl)) (by decide) (fun K hK => ?_)
          refine goes_ Try.func92 (by kernel_rfl) rfl #[.agg #[.int .i64 ((rd_T24 l0 (ji8)).f0), .int .i64 ((rd_T24 l0 (ji8)).f1), .int .i64 ((rd_T24 l0 (ji8)).f2), .int .i64 ((rd_T24 l0 (ji8)).f3), .int .i64 ((rd_T24 l0 (ji8)).f4), .slice A190_5 ((rd_T24 l0 (ji8)).f5).length c190_5, .int .i64 ((rd_T24 l0 (ji8)).f6), .bool ((rd_T24 l0 (ji8)).f7)], .agg #[.int .i64 ((rd_T24 l0 x3_1).f0), .int .i64 ((rd_T24 l0 x3_1).f1), .int .i64 ((rd_T24 l0 x3_1).f2), .int .i64 ((rd_T24 l0 x3_1).f3), .int .i64 ((rd_T24 l0 x3_1).f4), .slice A188_5 ((rd_T24 l0 x3_1).f5).length c188_5, .int .i64 ((rd_T24 l0 x3_1).f6), .bool ((rd_T24 l0 x3_1).f7)]] (by rfl) rfl rfl (by (try simp only [List.map_toArray, List.map_cons, List.map_nil]); first | done | (simp only [hji8]; rfl) | rfl | (simp only [List.length_drop, List.length_take]; rfl)) ?_
          with_reducible refine (spec_Before.calls ((rd_T24 l0 (ji8)).f0) ((rd_T24 l0 (ji8)).f1) ((rd_T24 l0 (ji8)).f2) ((rd_T24 l0 (ji8)).f3) ((rd_T24 l0 (ji8)).f4) _ _ ((rd_T24 l0 (ji8)).f5) ((rd_T24 l0 (ji8)).f6) ((rd_T24 l0 (ji8)).f7) ((rd_T24 l0 x3_1).f0) ((rd_T24 l0 x3_1).f1) ((rd_T24 l0 x3_1).f2) ((rd_T24 l0 x3_1).f3) ((rd_T24 l0 x3_1).f4) _ _ ((rd_T24 l0 x3_1).f5) ((rd_T24 l0 x3_1).f6) ((rd_T24 l0 x3_1).f7) t191 _ ?side1 ?side2 ?side3 ?side4 A11.out).mono ?_
          (case side1 => exact cs_q (Kd.C_below HR190_5.out HB.out))
          (case side2 => exact HC190_5.out)
          (case side3 => exact cs_q (Kd.C_below HR188_5.out HB.out))
          (case side4 => exact HC188_5.out)
          rintro e w15 ⟨rfl, hb⟩
          refine ⟨_, rfl, ?_⟩
          replace HB := Aside0.mk (below_step (bw_q HB) hb)
          (try clear hb)
          (try clear hb2)
          (try clear hk)
          (try clear hi)
          refine hK.out _ _ ⟨((HB.out.cell (World.block_lt_of_cell? w _ hw188_0)).trans hw188_0), ((HB.out.cell (World.block_lt_of_cell? w _ hw188_1)).trans hw188_1), ((HB.out.cell (World.block_lt_of_cell? w _ hw188_2)).trans hw188_2), ((HB.out.cell (World.block_lt_of_cell? w _ hw188_3)).trans hw188_3), ((HB.out.cell (World.block_lt_of_cell? w _ hw188_4)).trans hw188_4), ((HB.out.cell (World.block_lt_of_cell? w _ hw188_5)).trans hw188_5), ((HB.out.cell (World.block_lt_of_cell? w _ hw188_6)).trans hw188_6), ((HB.out.cell (World.block_lt_of_cell? w _ hw188_7)).trans hw188_7), ((HB.out.cell (World.block_lt_of_cell? w _ hw190_0)).trans hw190_0), ((HB.out.cell (World.block_lt_of_cell? w _ hw190_1)).trans hw190_1), ((HB.out.cell (World.block_lt_of_cell? w _ hw190_2)).trans hw190_2), ((HB.out.cell (World.block_lt_of_cell? w _ hw190_3)).trans hw190_3), ((HB.out.cell (World.block_lt_of_cell? w _ hw190_4)).trans hw190_4), ((HB.out.cell (World.block_lt_of_cell? w _ hw190_5)).trans hw190_5), ((HB.out.cell (World.block_lt_of_cell? w _ hw190_6)).trans hw190_6), ((HB.out.cell (World.block_lt_of_cell? w _ hw190_7)).trans hw190_7)⟩ (fun hHeld => ?_)
          clear hK K
          refine norm_ (a' := ?_) ?_ ?_; rotate_left; (show Act.put _ (some 32) _ = _; simp only [Act.put, List.setIfInBounds_toArray, List.set_cons_zero, List.set_cons_succ, i64_w, i32_w]; rfl)
          refine pq_ 20 33 (bL 23 2097151) HT_.out rfl rfl ?_
          refine pq_ 21 34 (bL 23 4194303) HT_.out rfl rfl ?_
          refine pq_ 22 35 (bL 23 8388607) HT_.out rfl rfl ?_
          have H := HZ24.out
          clear HZ24
          by_cases c12 : t191 = true
          ·subst c12
           have H1 : (spec_StoreOk.l0 k1 l0 (wrap64 (x3_1 + 1))) = some r := by rw [if_pos rfl] at H; exact H
           clear H
           have H := H1
           clear H1
           have H' := Aside0.mk H
           clear H
           refine done_ (done_of HT_.out (by kernel_rfl)) ?_
           try go_wp2
           go_roundg k1
           case measure => have := HK1.out; omega
           case rel => exact ⟨(wrap64 (x3_1 + 1)), (by first | rfl | (simp; done) | (simp [*]; done)), H', ⟨by have := HK1.out; omega⟩, ⟨bw_q HB⟩⟩
          ·replace c12 := Bool.eq_false_iff.mpr c12
           subst c12
           have H1 : (some false) = some r := by rw [if_neg (show ¬ (false = true) by decide)] at H; exact H
           clear H
           have H := H1
           clear H1
           obtain rfl := Option.some.inj H
           refine done_ (done_of HT_.out (by kernel_rfl)) ?_
           try go_wp2
           go_ret
           exact ⟨by first | rfl | (simp [errW_none, errW_some] <;> rfl) | (simp only [← hji8]; first | rfl | (simp [errW_none, errW_some] <;> rfl)) | (simp [*, errW_none, errW_some] <;> rfl), bw_q HB⟩
         ·rw [if_neg c10] at H
          exact absurd H (by simp)
        ·rw [if_neg c9] at H
         exact absurd H (by simp)
       ·rw [if_neg c7] at H
        have c7b0 : decide (0 < x3_1) = false := decide_eq_false c7
        (first | rw [c7b0] | (simp only [i64_w, i32_w]; first | rw [c7b0]) | skip)
        clear c7
        have H' := Aside0.mk H
        clear H
        refine pu_ 10 23 (bL 23 2047) HT_.out rfl rfl ?_
        refine pu_ 11 24 (bL 23 4095) HT_.out rfl rfl ?_
        refine pu_ 12 25 (bL 23 8191) HT_.out rfl rfl ?_
        refine pu_ 13 26 (bL 23 16383) HT_.out rfl rfl ?_
        refine pu_ 14 27 (bL 23 32767) HT_.out rfl rfl ?_
        refine pu_ 15 28 (bL 23 65535) HT_.out rfl rfl ?_
        refine pu_ 16 29 (bL 23 131071) HT_.out rfl rfl ?_
        refine pu_ 17 30 (bL 23 262143) HT_.out rfl rfl ?_
        refine pu_ 18 31 (bL 23 524287) HT_.out rfl rfl ?_
        refine pu_ 19 32 (bL 23 1048575) HT_.out rfl rfl ?_
        refine pu_ 20 33 (bL 23 2097151) HT_.out rfl rfl ?_
        refine pq_ 21 34 (bL 23 4194303) HT_.out rfl rfl ?_
        refine pq_ 22 35 (bL 23 8388607) HT_.out rfl rfl ?_
        refine done_ (done_of HT_.out (by kernel_rfl)) ?_
        try go_wp2
        go_roundg k1
        case measure => have := HK1.out; omega
        case rel => exact ⟨(wrap64 (x3_1 + 1)), (by first | rfl | (simp; done) | (simp [*]; done)), H', ⟨by have := HK1.out; omega⟩, ⟨bw_q HB⟩⟩
      ·replace c6 := Bool.eq_false_iff.mpr c6
       subst c6
       have H1 : (some false) = some r := by rw [if_neg (show ¬ (false = true) by decide)] at H; exact H
       clear H
       have H := H1
       clear H1
       obtain rfl := Option.some.inj H
       refine pu_ 7 20 (bL 23 255) HT_.out rfl rfl ?_
       refine pu_ 8 21 (bL 23 511) HT_.out rfl rfl ?_
       refine pu_ 9 22 (bL 23 1023) HT_.out rfl rfl ?_
       refine pu_ 10 23 (bL 23 2047) HT_.out rfl rfl ?_
       refine pu_ 11 24 (bL 23 4095) HT_.out rfl rfl ?_
       refine pu_ 12 25 (bL 23 8191) HT_.out rfl rfl ?_
       refine pu_ 13 26 (bL 23 16383) HT_.out rfl rfl ?_
       refine pu_ 14 27 (bL 23 32767) HT_.out rfl rfl ?_
       refine pu_ 15 28 (bL 23 65535) HT_.out rfl rfl ?_
       refine pu_ 16 29 (bL 23 131071) HT_.out rfl rfl ?_
       refine pu_ 17 30 (bL 23 262143) HT_.out rfl rfl ?_
       refine pu_ 18 31 (bL 23 524287) HT_.out rfl rfl ?_
       refine pu_ 19 32 (bL 23 1048575) HT_.out rfl rfl ?_
       refine pu_ 20 33 (bL 23 2097151) HT_.out rfl rfl ?_
       refine pu_ 21 34 (bL 23 4194303) HT_.out rfl rfl ?_
       refine pq_ 22 35 (bL 23 8388607) HT_.out rfl rfl ?_
       refine done_ (done_of HT_.out (by kernel_rfl)) ?_
       try go_wp2
       go_ret
       exact ⟨er_q, bw_q HB⟩
     ·rw [if_neg c4] at H
      exact absurd H (by simp)
    ·rw [if_neg c3] at H
     have c3b0 : decide (x3_1 < (l0.length : Int)) = false := decide_eq_false c3
     clear c3
     obtain rfl := Option.some.inj H
     go_wp2
     go_ret
     exact ⟨er_q, bw_q HB⟩

end Go.Proofs.Ytnecbkognpponaa.Q
