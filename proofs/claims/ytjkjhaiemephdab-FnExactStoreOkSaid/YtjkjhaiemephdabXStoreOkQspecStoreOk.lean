import Derived.Test.YtjkjhaiemephdabXStoreOkQk
import Derived.Test.YtjkjhaiemephdabXStoreOkQspecRecordOk
import Derived.Test.YtjkjhaiemephdabXStoreOkQspecBefore
/- A Go function as a Lean function, and its contract: for every input the Go code comes to what the Lean function tells. -/



namespace Go.Proofs.Ytjkjhaiemephdab.Q
open Go.RowKit Go.Proofs.YtjkjhaiemephdabW.PrintWords Go.Proofs.YtjkjhaiemephdabW.PrintLast Go.Proofs.YtjkjhaiemephdabW.PrintMore
attribute [local go_sem] max2_int min2_int max_two min_two max_three min_three max_four min_four   -- for this text's walks alone
set_option linter.unusedVariables false
set_option linter.unusedSimpArgs false

/-! ### spec_StoreOk: function 47 -/
def spec_StoreOk.l0 : Nat → List (S52) → Int → Option (Bool)
  | 0, _, _ => none
  | k + 1, x0, x3 => if x3 < (x0.length : Int) then (if 0 ≤ x3 then ((spec_RecordOk.f k ((rd_T52 x0 x3).f0) ((rd_T52 x0 x3).f1) ((rd_T52 x0 x3).f2) ((rd_T52 x0 x3).f3) ((rd_T52 x0 x3).f4) ((rd_T52 x0 x3).f5) ((rd_T52 x0 x3).f6) ((rd_T52 x0 x3).f7)).bind fun t951 => (if t951 = true then (if x3 > 0 then (if 0 ≤ (wrap64 (x3 - 1)) then (if (wrap64 (x3 - 1)) < (x0.length : Int) then ((spec_Before.f ((rd_T52 x0 (wrap64 (x3 - 1))).f0) ((rd_T52 x0 (wrap64 (x3 - 1))).f1) ((rd_T52 x0 (wrap64 (x3 - 1))).f2) ((rd_T52 x0 (wrap64 (x3 - 1))).f3) ((rd_T52 x0 (wrap64 (x3 - 1))).f4) ((rd_T52 x0 (wrap64 (x3 - 1))).f5) ((rd_T52 x0 (wrap64 (x3 - 1))).f6) ((rd_T52 x0 (wrap64 (x3 - 1))).f7) ((rd_T52 x0 x3).f0) ((rd_T52 x0 x3).f1) ((rd_T52 x0 x3).f2) ((rd_T52 x0 x3).f3) ((rd_T52 x0 x3).f4) ((rd_T52 x0 x3).f5) ((rd_T52 x0 x3).f6) ((rd_T52 x0 x3).f7)).bind fun t953 => (if t953 = true then (spec_StoreOk.l0 k x0 (wrap64 (x3 + 1))) else (some false))) else (none)) else (none)) else (spec_StoreOk.l0 k x0 (wrap64 (x3 + 1)))) else (some false))) else (none)) else (some true)
def spec_StoreOk.f (k : Nat) (l0 : List (S52)) : Option (Bool) := if (l0.length : Int) > 150 then (some false) else (spec_StoreOk.l0 k l0 0)
theorem spec_StoreOk.mono_l : ∀ k, (∀ y0 y1, LeO (spec_StoreOk.l0 k y0 y1) (spec_StoreOk.l0 (k + 1) y0 y1))
  | 0 => fun _ _ r h => by simp [spec_StoreOk.l0] at h
  | k + 1 => by
    have ih0 := spec_StoreOk.mono_l k
    · intro y0 y1
      unfold spec_StoreOk.l0
      repeat' first
      | (with_reducible exact ih0 _ _)
      | (with_reducible exact spec_RecordOk.mono _ _ _ _ _ _ _ _ _)
      | (with_reducible exact LeO.refl _)
      | (with_reducible exact LeO.none _)
      | (with_reducible refine LeO.ite ?_ ?_)
      | (with_reducible refine LeO.bind ?_ (fun _ => ?_))
      | exact ih0 _ _
      | exact spec_RecordOk.mono _ _ _ _ _ _ _ _ _
      | exact LeO.none _
      | refine LeO.ite ?_ ?_
      | refine LeO.bind ?_ (fun _ => ?_)
theorem spec_StoreOk.mono : ∀ a0 k, LeO (spec_StoreOk.f k a0) (spec_StoreOk.f (k + 1) a0) := by
  intro a0 k
  have ih0 := spec_StoreOk.mono_l k
  unfold spec_StoreOk.f
  repeat' first
      | (with_reducible exact ih0 _ _)
      | (with_reducible exact spec_RecordOk.mono _ _ _ _ _ _ _ _ _)
      | (with_reducible exact LeO.refl _)
      | (with_reducible exact LeO.none _)
      | (with_reducible refine LeO.ite ?_ ?_)
      | (with_reducible refine LeO.bind ?_ (fun _ => ?_))
      | exact ih0 _ _
      | exact spec_RecordOk.mono _ _ _ _ _ _ _ _ _
      | exact LeO.none _
      | refine LeO.ite ?_ ?_
      | refine LeO.bind ?_ (fun _ => ?_)
def spec_StoreOk.T6 : Bool × List (List Nat × List Nat) := (true, [([], []), ([], []), ([0, 1], [0, 1]), ([2], [2]), ([3], [3]), ([4], [4]), ([5, 4], [5]), ([6], [6]), ([7, 6], [6, 7]), ([8, 6, 6], [6, 8]), ([9], [9]), ([9], [9]), ([11, 9], [9, 11]), ([10, 12, 9], [9, 10, 12]), ([13, 9], [9, 13]), ([9], [9]), ([9], [9]), ([15, 16, 9], [9, 15, 16]), ([17, 9], [9, 17]), ([14, 18, 9, 9], [9, 14, 18]), ([19, 9], [9, 19]), ([9, 20, 6], [6, 9, 20]), ([6, 21], [6, 21])])
def spec_StoreOk.B6 : List Nat := [0, 0, 3, 7, 15, 31, 63, 127, 255, 511, 1023, 1023, 3071, 8191, 16383, 1023, 1023, 99327, 230399, 524287, 1048575, 2097151, 4194303]
theorem spec_StoreOk.tab6 : rtab .any (opsOf Try.f47 6) = spec_StoreOk.T6 := by kernel_rfl
theorem spec_StoreOk.bits6 : waitsOk spec_StoreOk.T6.2 spec_StoreOk.B6 = true := by kernel_rfl
set_option maxHeartbeats 8000000 in
set_option maxRecDepth 100000 in
theorem spec_StoreOk.calls (k : Nat) (A0 : Option Addr) (c0 : Nat) (l0 : List (S52)) (r : Bool) (w : World) (hr0 : Kd.C k52 w A0 l0.length l0) (hc0 : l0.length ≤ c0) (h : spec_StoreOk.f k l0 = some r) :
    Calls Try.prog 47 #[.slice A0 l0.length c0] w fun e w' => e = .returned (.bool r) ∧ Below w.heap.size w w' := by
  have hu52 := Try.underlying52
  have HR0 := Aside0.mk hr0
  have HC0 := Aside0.mk hc0
  clear hr0 hc0
  have HB := Aside0.mk (Below.refl w.heap.size w)
  have H : (if (l0.length : Int) > 150 then (some false) else (spec_StoreOk.l0 k l0 0)) = some r := h
  clear h
  by_cases c2 : (l0.length : Int) > 150
  · rw [if_pos c2] at H
    have c2b0 : decide (150 < (l0.length : Int)) = true := decide_eq_true c2
    have c2b1 : decide (150 < l0.length) = true := decide_eq_true (by omega)
    clear c2
    obtain rfl := Option.some.inj H
    go_enter Try.func47, Try.ntmps47
    go_wp2
    go_ret
    exact ⟨by first | rfl | (simp [errW_none, errW_some] <;> rfl) | (simp [*, errW_none, errW_some] <;> rfl), by repeat (first | (with_reducible first | exact HB.out | apply below_alloc | apply pw_below_drewN | apply below_drew1) | exact HB.out)⟩
  · rw [if_neg c2] at H
    have c2b0 : decide (150 < (l0.length : Int)) = false := decide_eq_false c2
    have c2b1 : decide (150 < l0.length) = false := decide_eq_false (by omega)
    clear c2
    have H' := Aside0.mk H
    clear H
    go_enter Try.func47, Try.ntmps47
    go_wp2
    go_loopg [3] k (fun kq v3 w' => ∃ (x3_1 : Int), v3 = .int .i64 x3_1 ∧ Aside0 (spec_StoreOk.l0 kq l0 x3_1 = some r) ∧ Aside0 (kq ≤ k) ∧ Aside0 (Below w.heap.size w w'))
    case atStart => exact ⟨(0), (by first | rfl | (simp; done) | (simp [*]; done)), H', ⟨Nat.le_refl _⟩, ⟨by repeat (first | (with_reducible first | exact HB.out | apply below_alloc | apply pw_below_drewN | apply below_drew1) | exact HB.out)⟩⟩
    case round =>
      clear H'
      try clear c2
      try clear c2b0
      try clear c2b1
      try clear p2
      obtain ⟨x3_1, rfl, HA, HK1, HB⟩ := hrel
      cases gk with
      | zero => exact absurd HA.out (by simp [spec_StoreOk.l0])
      | succ k1 =>
        have H := HA.out
        clear HA
        simp only [spec_StoreOk.l0] at H
        by_cases c3 : x3_1 < (l0.length : Int)
        · rw [if_pos c3] at H
          have c3b0 : decide (x3_1 < (l0.length : Int)) = true := decide_eq_true c3
          clear c3
          by_cases c4 : 0 ≤ x3_1
          · rw [if_pos c4] at H
            have c4b0 : decide (0 ≤ x3_1) = true := decide_eq_true c4
            clear c4
            replace H := Option.bind_eq_some_iff.mp H
            obtain ⟨t951, A50, H⟩ := H
            replace H : (if t951 = true then (if x3_1 > 0 then (if 0 ≤ (wrap64 (x3_1 - 1)) then (if (wrap64 (x3_1 - 1)) < (l0.length : Int) then ((spec_Before.f ((rd_T52 l0 (wrap64 (x3_1 - 1))).f0) ((rd_T52 l0 (wrap64 (x3_1 - 1))).f1) ((rd_T52 l0 (wrap64 (x3_1 - 1))).f2) ((rd_T52 l0 (wrap64 (x3_1 - 1))).f3) ((rd_T52 l0 (wrap64 (x3_1 - 1))).f4) ((rd_T52 l0 (wrap64 (x3_1 - 1))).f5) ((rd_T52 l0 (wrap64 (x3_1 - 1))).f6) ((rd_T52 l0 (wrap64 (x3_1 - 1))).f7) ((rd_T52 l0 x3_1).f0) ((rd_T52 l0 x3_1).f1) ((rd_T52 l0 x3_1).f2) ((rd_T52 l0 x3_1).f3) ((rd_T52 l0 x3_1).f4) ((rd_T52 l0 x3_1).f5) ((rd_T52 l0 x3_1).f6) ((rd_T52 l0 x3_1).f7)).bind fun t953 => (if t953 = true then (spec_StoreOk.l0 k1 l0 (wrap64 (x3_1 + 1))) else (some false))) else (none)) else (none)) else (spec_StoreOk.l0 k1 l0 (wrap64 (x3_1 + 1)))) else (some false)) = some r := H
            have A5 := Aside0.mk A50
            clear A50
            by_cases c6 : t951 = true
            · subst c6
              have H1 : (if x3_1 > 0 then (if 0 ≤ (wrap64 (x3_1 - 1)) then (if (wrap64 (x3_1 - 1)) < (l0.length : Int) then ((spec_Before.f ((rd_T52 l0 (wrap64 (x3_1 - 1))).f0) ((rd_T52 l0 (wrap64 (x3_1 - 1))).f1) ((rd_T52 l0 (wrap64 (x3_1 - 1))).f2) ((rd_T52 l0 (wrap64 (x3_1 - 1))).f3) ((rd_T52 l0 (wrap64 (x3_1 - 1))).f4) ((rd_T52 l0 (wrap64 (x3_1 - 1))).f5) ((rd_T52 l0 (wrap64 (x3_1 - 1))).f6) ((rd_T52 l0 (wrap64 (x3_1 - 1))).f7) ((rd_T52 l0 x3_1).f0) ((rd_T52 l0 x3_1).f1) ((rd_T52 l0 x3_1).f2) ((rd_T52 l0 x3_1).f3) ((rd_T52 l0 x3_1).f4) ((rd_T52 l0 x3_1).f5) ((rd_T52 l0 x3_1).f6) ((rd_T52 l0 x3_1).f7)).bind fun t953 => (if t953 = true then (spec_StoreOk.l0 k1 l0 (wrap64 (x3_1 + 1))) else (some false))) else (none)) else (none)) else (spec_StoreOk.l0 k1 l0 (wrap64 (x3_1 + 1)))) = some r := by rw [if_pos rfl] at H; exact H
              clear H
              have H := H1
              clear H1
              by_cases c7 : x3_1 > 0
              · rw [if_pos c7] at H
                have c7b0 : decide (0 < x3_1) = true := decide_eq_true c7
                clear c7
                obtain ⟨ji8, hji8⟩ : ∃ j_ : Int, (wrap64 (x3_1 - 1)) = j_ := ⟨_, rfl⟩
                replace H : (if 0 ≤ (ji8) then (if (ji8) < (l0.length : Int) then ((spec_Before.f ((rd_T52 l0 (ji8)).f0) ((rd_T52 l0 (ji8)).f1) ((rd_T52 l0 (ji8)).f2) ((rd_T52 l0 (ji8)).f3) ((rd_T52 l0 (ji8)).f4) ((rd_T52 l0 (ji8)).f5) ((rd_T52 l0 (ji8)).f6) ((rd_T52 l0 (ji8)).f7) ((rd_T52 l0 x3_1).f0) ((rd_T52 l0 x3_1).f1) ((rd_T52 l0 x3_1).f2) ((rd_T52 l0 x3_1).f3) ((rd_T52 l0 x3_1).f4) ((rd_T52 l0 x3_1).f5) ((rd_T52 l0 x3_1).f6) ((rd_T52 l0 x3_1).f7)).bind fun t953 => (if t953 = true then (spec_StoreOk.l0 k1 l0 (wrap64 (x3_1 + 1))) else (some false))) else (none)) else (none)) = some r := by first | (rw [hji8] at H; exact H) | (simp only [hji8] at H ⊢; exact H)
                (try rw [hji8] at A5)
                have hji8w : (IntKind.i64.wrap (x3_1 - 1)) = ji8 := (i64_w _).trans hji8
                by_cases c9 : 0 ≤ (ji8)
                · rw [if_pos c9] at H
                  have c9b0 : decide (0 ≤ (ji8)) = true := decide_eq_true c9
                  clear c9
                  by_cases c10 : (ji8) < (l0.length : Int)
                  · rw [if_pos c10] at H
                    have c10b0 : decide ((ji8) < (l0.length : Int)) = true := decide_eq_true c10
                    clear c10
                    replace H := Option.bind_eq_some_iff.mp H
                    obtain ⟨t953, A110, H⟩ := H
                    replace H : (if t953 = true then (spec_StoreOk.l0 k1 l0 (wrap64 (x3_1 + 1))) else (some false)) = some r := H
                    have A11 := Aside0.mk A110
                    clear A110
                    by_cases c12 : t953 = true
                    · subst c12
                      have H1 : (spec_StoreOk.l0 k1 l0 (wrap64 (x3_1 + 1))) = some r := by rw [if_pos rfl] at H; exact H
                      clear H
                      have H := H1
                      clear H1
                      have H' := Aside0.mk H
                      clear H
                      try go_wp2
                      have n0_ := Aside0.mk (below_drew1 HB.out)
                      clear HB
                      have HB := n0_
                      clear n0_
                      have p950 : 0 ≤ (x3_1 : Int) := of_decide_eq_true (by first | (with_reducible assumption) | assumption)
                      have q950 : x3_1 < (l0.length : Int) := of_decide_eq_true (by first | (with_reducible assumption) | assumption)
                      obtain ⟨ad950, A950_5, c950_5, e950, hx950_0, hx950_1, hx950_2, hx950_3, hx950_4, hx950_5, hx950_6, hx950_7, hl950_5, hi950_5⟩ := at_T52 HR0.out x3_1 p950 q950
                      have hw950_7 := hx950_7
                      have hw950_6 := hx950_6
                      have hw950_5 := hx950_5
                      have hw950_4 := hx950_4
                      have hw950_3 := hx950_3
                      have hw950_2 := hx950_2
                      have hw950_1 := hx950_1
                      have hw950_0 := hx950_0
                      cases e950
                      replace hx950_0 := (HB.out.cell (World.block_lt_of_cell? w _ hx950_0)).trans hx950_0
                      replace hx950_1 := (HB.out.cell (World.block_lt_of_cell? w _ hx950_1)).trans hx950_1
                      replace hx950_2 := (HB.out.cell (World.block_lt_of_cell? w _ hx950_2)).trans hx950_2
                      replace hx950_3 := (HB.out.cell (World.block_lt_of_cell? w _ hx950_3)).trans hx950_3
                      replace hx950_4 := (HB.out.cell (World.block_lt_of_cell? w _ hx950_4)).trans hx950_4
                      replace hx950_5 := (HB.out.cell (World.block_lt_of_cell? w _ hx950_5)).trans hx950_5
                      replace hx950_6 := (HB.out.cell (World.block_lt_of_cell? w _ hx950_6)).trans hx950_6
                      replace hx950_7 := (HB.out.cell (World.block_lt_of_cell? w _ hx950_7)).trans hx950_7
                      have HR950_5 := Aside0.mk hi950_5
                      have HC950_5 := Aside0.mk hl950_5
                      clear hi950_5 hl950_5
                      replace p950 := eq_true p950
                      replace q950 := eq_true q950
                      have p952 : 0 ≤ ((ji8) : Int) := of_decide_eq_true (by first | (with_reducible assumption) | assumption)
                      have q952 : (ji8) < (l0.length : Int) := of_decide_eq_true (by first | (with_reducible assumption) | assumption)
                      obtain ⟨ad952, A952_5, c952_5, e952, hx952_0, hx952_1, hx952_2, hx952_3, hx952_4, hx952_5, hx952_6, hx952_7, hl952_5, hi952_5⟩ := at_T52 HR0.out (ji8) p952 q952
                      have hw952_7 := hx952_7
                      have hw952_6 := hx952_6
                      have hw952_5 := hx952_5
                      have hw952_4 := hx952_4
                      have hw952_3 := hx952_3
                      have hw952_2 := hx952_2
                      have hw952_1 := hx952_1
                      have hw952_0 := hx952_0
                      obtain rfl : ad950 = ad952 := (by injection e952)
                      replace hx952_0 := (HB.out.cell (World.block_lt_of_cell? w _ hx952_0)).trans hx952_0
                      replace hx952_1 := (HB.out.cell (World.block_lt_of_cell? w _ hx952_1)).trans hx952_1
                      replace hx952_2 := (HB.out.cell (World.block_lt_of_cell? w _ hx952_2)).trans hx952_2
                      replace hx952_3 := (HB.out.cell (World.block_lt_of_cell? w _ hx952_3)).trans hx952_3
                      replace hx952_4 := (HB.out.cell (World.block_lt_of_cell? w _ hx952_4)).trans hx952_4
                      replace hx952_5 := (HB.out.cell (World.block_lt_of_cell? w _ hx952_5)).trans hx952_5
                      replace hx952_6 := (HB.out.cell (World.block_lt_of_cell? w _ hx952_6)).trans hx952_6
                      replace hx952_7 := (HB.out.cell (World.block_lt_of_cell? w _ hx952_7)).trans hx952_7
                      have HR952_5 := Aside0.mk hi952_5
                      have HC952_5 := Aside0.mk hl952_5
                      clear hi952_5 hl952_5
                      replace p952 := eq_true p952
                      replace q952 := eq_true q952
                      refine start_ (n := 23) (S := fun w' => w'.cell? (ad950.add ((x3_1).toNat * 8)) = some (.int .i64 ((rd_T52 l0 x3_1).f0)) ∧ w'.cell? ⟨(ad950.add ((x3_1).toNat * 8)).block, (ad950.add ((x3_1).toNat * 8)).off + 1, none⟩ = some (.int .i64 ((rd_T52 l0 x3_1).f1)) ∧ w'.cell? ⟨(ad950.add ((x3_1).toNat * 8)).block, (ad950.add ((x3_1).toNat * 8)).off + 2, none⟩ = some (.int .i64 ((rd_T52 l0 x3_1).f2)) ∧ w'.cell? ⟨(ad950.add ((x3_1).toNat * 8)).block, (ad950.add ((x3_1).toNat * 8)).off + 3, none⟩ = some (.int .i64 ((rd_T52 l0 x3_1).f3)) ∧ w'.cell? ⟨(ad950.add ((x3_1).toNat * 8)).block, (ad950.add ((x3_1).toNat * 8)).off + 4, none⟩ = some (.int .i64 ((rd_T52 l0 x3_1).f4)) ∧ w'.cell? ⟨(ad950.add ((x3_1).toNat * 8)).block, (ad950.add ((x3_1).toNat * 8)).off + 5, none⟩ = some (.slice A950_5 ((rd_T52 l0 x3_1).f5).length c950_5) ∧ w'.cell? ⟨(ad950.add ((x3_1).toNat * 8)).block, (ad950.add ((x3_1).toNat * 8)).off + 6, none⟩ = some (.int .i64 ((rd_T52 l0 x3_1).f6)) ∧ w'.cell? ⟨(ad950.add ((x3_1).toNat * 8)).block, (ad950.add ((x3_1).toNat * 8)).off + 7, none⟩ = some (.bool ((rd_T52 l0 x3_1).f7)) ∧ w'.cell? (ad950.add (((ji8)).toNat * 8)) = some (.int .i64 ((rd_T52 l0 (ji8)).f0)) ∧ w'.cell? ⟨(ad950.add (((ji8)).toNat * 8)).block, (ad950.add (((ji8)).toNat * 8)).off + 1, none⟩ = some (.int .i64 ((rd_T52 l0 (ji8)).f1)) ∧ w'.cell? ⟨(ad950.add (((ji8)).toNat * 8)).block, (ad950.add (((ji8)).toNat * 8)).off + 2, none⟩ = some (.int .i64 ((rd_T52 l0 (ji8)).f2)) ∧ w'.cell? ⟨(ad950.add (((ji8)).toNat * 8)).block, (ad950.add (((ji8)).toNat * 8)).off + 3, none⟩ = some (.int .i64 ((rd_T52 l0 (ji8)).f3)) ∧ w'.cell? ⟨(ad950.add (((ji8)).toNat * 8)).block, (ad950.add (((ji8)).toNat * 8)).off + 4, none⟩ = some (.int .i64 ((rd_T52 l0 (ji8)).f4)) ∧ w'.cell? ⟨(ad950.add (((ji8)).toNat * 8)).block, (ad950.add (((ji8)).toNat * 8)).off + 5, none⟩ = some (.slice A952_5 ((rd_T52 l0 (ji8)).f5).length c952_5) ∧ w'.cell? ⟨(ad950.add (((ji8)).toNat * 8)).block, (ad950.add (((ji8)).toNat * 8)).off + 6, none⟩ = some (.int .i64 ((rd_T52 l0 (ji8)).f6)) ∧ w'.cell? ⟨(ad950.add (((ji8)).toNat * 8)).block, (ad950.add (((ji8)).toNat * 8)).off + 7, none⟩ = some (.bool ((rd_T52 l0 (ji8)).f7))) (ds := []) (bL 23 0) (by kernel_rfl) rfl rfl ⟨((HB.out.cell (World.block_lt_of_cell? w _ hw950_0)).trans hw950_0), ((HB.out.cell (World.block_lt_of_cell? w _ hw950_1)).trans hw950_1), ((HB.out.cell (World.block_lt_of_cell? w _ hw950_2)).trans hw950_2), ((HB.out.cell (World.block_lt_of_cell? w _ hw950_3)).trans hw950_3), ((HB.out.cell (World.block_lt_of_cell? w _ hw950_4)).trans hw950_4), ((HB.out.cell (World.block_lt_of_cell? w _ hw950_5)).trans hw950_5), ((HB.out.cell (World.block_lt_of_cell? w _ hw950_6)).trans hw950_6), ((HB.out.cell (World.block_lt_of_cell? w _ hw950_7)).trans hw950_7), ((HB.out.cell (World.block_lt_of_cell? w _ hw952_0)).trans hw952_0), ((HB.out.cell (World.block_lt_of_cell? w _ hw952_1)).trans hw952_1), ((HB.out.cell (World.block_lt_of_cell? w _ hw952_2)).trans hw952_2), ((HB.out.cell (World.block_lt_of_cell? w _ hw952_3)).trans hw952_3), ((HB.out.cell (World.block_lt_of_cell? w _ hw952_4)).trans hw952_4), ((HB.out.cell (World.block_lt_of_cell? w _ hw952_5)).trans hw952_5), ((HB.out.cell (World.block_lt_of_cell? w _ hw952_6)).trans hw952_6), ((HB.out.cell (World.block_lt_of_cell? w _ hw952_7)).trans hw952_7)⟩ (fun hHeld => ?_); refine with_tabW spec_StoreOk.tab6 spec_StoreOk.bits6 (fun HT_ HW_ => ?_)
                      generalize wr.drew = w13 at HB HR950_5 HR952_5 hx950_0 hx950_1 hx950_2 hx950_3 hx950_4 hx950_5 hx950_6 hx950_7 hx952_0 hx952_1 hx952_2 hx952_3 hx952_4 hx952_5 hx952_6 hx952_7 hHeld ⊢
                      refine pure_ (i := 0) (N := some 13) (v := ?_) (a' := ?_) (bL 23 1) rfl rfl (any_of HT_.out (by kernel_rfl)) (fun _ _ _ h => h) (Or.inl ⟨by rfl, ?_⟩) ?_ ?_; rotate_left; (intro w'; go_simp; with_reducible rfl); rotate_left; (simp only [Act.put, List.setIfInBounds_toArray, List.set_cons_zero, List.set_cons_succ, i64_w, i32_w]; rfl)
                      refine pure_ (i := 1) (N := some 14) (v := ?_) (a' := ?_) (bL 23 3) rfl rfl (any_of HT_.out (by kernel_rfl)) (fun _ _ _ h => h) (Or.inl ⟨by rfl, ?_⟩) ?_ ?_; rotate_left; (intro w'; go_simp; with_reducible rfl); rotate_left; (simp only [Act.put, List.setIfInBounds_toArray, List.set_cons_zero, List.set_cons_succ, i64_w, i32_w]; rfl)
                      refine pure_ (i := 2) (N := some 15) (v := ?_) (a' := ?_) (bL 23 7) rfl rfl (any_of HT_.out (by kernel_rfl)) (fun _ _ _ h => h) (Or.inl ⟨by rfl, ?_⟩) ?_ ?_; rotate_left; (intro w'; go_simp; with_reducible rfl); rotate_left; (simp only [Act.put, List.setIfInBounds_toArray, List.set_cons_zero, List.set_cons_succ, i64_w, i32_w]; rfl)
                      refine take_ (i := 3) (N := some 16) (v := ?_) (a' := ?_) (bL 23 15) rfl rfl (take_ofW HT_.out HW_.out (by kernel_rfl)) (fun _ _ _ h => h) (Or.inl ⟨by rfl, ?_⟩) hHeld ?_ ?_; rotate_left; (rintro w' ⟨s0, s1, s2, s3, s4, s5, s6, s7, s8, s9, s10, s11, s12, s13, s14, s15⟩; go_simp; with_reducible rfl); rotate_left; (simp only [Act.put, List.setIfInBounds_toArray, List.set_cons_zero, List.set_cons_succ, i64_w, i32_w]; rfl)
                      refine one_ (i := 4) (N := some 17) (bL 23 31) rfl rfl (one_of HT_.out (by kernel_rfl)) (by decide) (fun K hK => ?_)
                      refine goes_ Try.func76 (by kernel_rfl) rfl #[.agg #[.int .i64 ((rd_T52 l0 x3_1).f0), .int .i64 ((rd_T52 l0 x3_1).f1), .int .i64 ((rd_T52 l0 x3_1).f2), .int .i64 ((rd_T52 l0 x3_1).f3), .int .i64 ((rd_T52 l0 x3_1).f4), .slice A950_5 ((rd_T52 l0 x3_1).f5).length c950_5, .int .i64 ((rd_T52 l0 x3_1).f6), .bool ((rd_T52 l0 x3_1).f7)]] (by rfl) rfl rfl (by (try simp only [List.map_toArray, List.map_cons, List.map_nil]); first | done | rfl | (simp only [List.length_drop, List.length_take]; rfl)) ?_
                      with_reducible refine (spec_RecordOk.calls k1 ((rd_T52 l0 x3_1).f0) ((rd_T52 l0 x3_1).f1) ((rd_T52 l0 x3_1).f2) ((rd_T52 l0 x3_1).f3) ((rd_T52 l0 x3_1).f4) _ _ ((rd_T52 l0 x3_1).f5) ((rd_T52 l0 x3_1).f6) ((rd_T52 l0 x3_1).f7) true _ ?side1 ?side2 A5.out).mono ?_
                      (case side1 => repeat (first | exact (Kd.C_below HR950_5.out HB.out) | (with_reducible refine Kd.C_alloc ?_ _) | (with_reducible refine Kd.C_drewN ?_ _) | (with_reducible refine Kd.C_drew ?_)))
                      (case side2 => exact HC950_5.out)
                      rintro e w14 ⟨rfl, hb⟩
                      refine ⟨_, rfl, ?_⟩
                      have n0_ := Aside0.mk (below_step (by repeat (first | (with_reducible first | exact HB.out | apply below_alloc | apply pw_below_drewN | apply below_drew1) | exact HB.out)) hb)
                      clear HB
                      have HB := n0_
                      clear n0_
                      (try clear hb)
                      (try clear hb2)
                      (try clear hk)
                      (try clear hi)
                      refine hK.out _ _ ⟨((HB.out.cell (World.block_lt_of_cell? w _ hw950_0)).trans hw950_0), ((HB.out.cell (World.block_lt_of_cell? w _ hw950_1)).trans hw950_1), ((HB.out.cell (World.block_lt_of_cell? w _ hw950_2)).trans hw950_2), ((HB.out.cell (World.block_lt_of_cell? w _ hw950_3)).trans hw950_3), ((HB.out.cell (World.block_lt_of_cell? w _ hw950_4)).trans hw950_4), ((HB.out.cell (World.block_lt_of_cell? w _ hw950_5)).trans hw950_5), ((HB.out.cell (World.block_lt_of_cell? w _ hw950_6)).trans hw950_6), ((HB.out.cell (World.block_lt_of_cell? w _ hw950_7)).trans hw950_7), ((HB.out.cell (World.block_lt_of_cell? w _ hw952_0)).trans hw952_0), ((HB.out.cell (World.block_lt_of_cell? w _ hw952_1)).trans hw952_1), ((HB.out.cell (World.block_lt_of_cell? w _ hw952_2)).trans hw952_2), ((HB.out.cell (World.block_lt_of_cell? w _ hw952_3)).trans hw952_3), ((HB.out.cell (World.block_lt_of_cell? w _ hw952_4)).trans hw952_4), ((HB.out.cell (World.block_lt_of_cell? w _ hw952_5)).trans hw952_5), ((HB.out.cell (World.block_lt_of_cell? w _ hw952_6)).trans hw952_6), ((HB.out.cell (World.block_lt_of_cell? w _ hw952_7)).trans hw952_7)⟩ (fun hHeld => ?_)
                      clear hK K
                      refine norm_ (a' := ?_) ?_ ?_; rotate_left; (show Act.put _ (some 17) _ = _; simp only [Act.put, List.setIfInBounds_toArray, List.set_cons_zero, List.set_cons_succ, i64_w, i32_w]; rfl)
                      refine pure_ (i := 5) (N := some 18) (v := ?_) (a' := ?_) (bL 23 63) rfl rfl (any_of HT_.out (by kernel_rfl)) (fun _ _ _ h => h) (Or.inl ⟨by rfl, ?_⟩) ?_ ?_; rotate_left; (intro w'; go_simp; with_reducible rfl); rotate_left; (simp only [Act.put, List.setIfInBounds_toArray, List.set_cons_zero, List.set_cons_succ, i64_w, i32_w]; rfl)
                      refine pure_ (i := 6) (N := some 19) (v := ?_) (a' := ?_) (bL 23 127) rfl rfl (any_of HT_.out (by kernel_rfl)) (fun _ _ _ h => h) (Or.inl ⟨by rfl, ?_⟩) ?_ ?_; rotate_left; (intro w'; go_simp; with_reducible rfl); rotate_left; (simp only [Act.put, List.setIfInBounds_toArray, List.set_cons_zero, List.set_cons_succ, i64_w, i32_w]; rfl)
                      refine pure_ (i := 7) (N := some 20) (v := ?_) (a' := ?_) (bL 23 255) rfl rfl (any_of HT_.out (by kernel_rfl)) (fun _ _ _ h => h) (Or.inl ⟨by rfl, ?_⟩) ?_ ?_; rotate_left; (intro w'; go_simp; with_reducible rfl); rotate_left; (simp only [Act.put, List.setIfInBounds_toArray, List.set_cons_zero, List.set_cons_succ, i64_w, i32_w]; rfl)
                      refine pure_ (i := 8) (N := some 21) (v := ?_) (a' := ?_) (bL 23 511) rfl rfl (any_of HT_.out (by kernel_rfl)) (fun _ _ _ h => h) (Or.inl ⟨by rfl, ?_⟩) ?_ ?_; rotate_left; (intro w'; go_simp; with_reducible rfl); rotate_left; (simp only [Act.put, List.setIfInBounds_toArray, List.set_cons_zero, List.set_cons_succ, i64_w, i32_w]; rfl)
                      refine pure_ (i := 9) (N := some 22) (v := ?_) (a' := ?_) (bL 23 1023) rfl rfl (any_of HT_.out (by kernel_rfl)) (fun _ _ _ h => h) (Or.inl ⟨by rfl, ?_⟩) ?_ ?_; rotate_left; (intro w'; go_simp; with_reducible rfl); rotate_left; (simp only [Act.put, List.setIfInBounds_toArray, List.set_cons_zero, List.set_cons_succ, i64_w, i32_w]; rfl)
                      refine pure_ (i := 10) (N := some 23) (v := ?_) (a' := ?_) (bL 23 2047) rfl rfl (any_of HT_.out (by kernel_rfl)) (fun _ _ _ h => h) (Or.inl ⟨by rfl, ?_⟩) ?_ ?_; rotate_left; (intro w'; go_simp; with_reducible rfl); rotate_left; (simp only [Act.put, List.setIfInBounds_toArray, List.set_cons_zero, List.set_cons_succ, i64_w, i32_w]; rfl)
                      refine pure_ (i := 11) (N := some 24) (v := ?_) (a' := ?_) (bL 23 4095) rfl rfl (any_of HT_.out (by kernel_rfl)) (fun _ _ _ h => h) (Or.inl ⟨by rfl, ?_⟩) ?_ ?_; rotate_left; (intro w'; go_simp; with_reducible rfl); rotate_left; (simp only [Act.put, List.setIfInBounds_toArray, List.set_cons_zero, List.set_cons_succ, i64_w, i32_w]; rfl)
                      refine pure_ (i := 12) (N := some 25) (v := ?_) (a' := ?_) (bL 23 8191) rfl rfl (any_of HT_.out (by kernel_rfl)) (fun _ _ _ h => h) (Or.inl ⟨by rfl, ?_⟩) ?_ ?_; rotate_left; (intro w'; go_simp; with_reducible rfl); rotate_left; (simp only [Act.put, List.setIfInBounds_toArray, List.set_cons_zero, List.set_cons_succ, i64_w, i32_w]; rfl)
                      refine pure_ (i := 13) (N := some 26) (v := ?_) (a' := ?_) (bL 23 16383) rfl rfl (any_of HT_.out (by kernel_rfl)) (fun _ _ _ h => h) (Or.inl ⟨by rfl, ?_⟩) ?_ ?_; rotate_left; (intro w'; go_simp; with_reducible rfl); rotate_left; (simp only [Act.put, List.setIfInBounds_toArray, List.set_cons_zero, List.set_cons_succ, i64_w, i32_w]; rfl)
                      refine pure_ (i := 15) (N := some 28) (v := ?_) (a' := ?_) (bL 23 49151) rfl rfl (any_of HT_.out (by kernel_rfl)) (fun _ _ _ h => h) (Or.inl ⟨by rfl, ?_⟩) ?_ ?_; rotate_left; (intro w'; go_simp; with_reducible rfl); rotate_left; (simp only [Act.put, List.setIfInBounds_toArray, List.set_cons_zero, List.set_cons_succ, i64_w, i32_w]; rfl)
                      refine pure_ (i := 16) (N := some 29) (v := ?_) (a' := ?_) (bL 23 114687) rfl rfl (any_of HT_.out (by kernel_rfl)) (fun _ _ _ h => h) (Or.inl ⟨by rfl, ?_⟩) ?_ ?_; rotate_left; (intro w'; go_simp; with_reducible rfl); rotate_left; (simp only [Act.put, List.setIfInBounds_toArray, List.set_cons_zero, List.set_cons_succ, i64_w, i32_w]; rfl)
                      refine pure_ (i := 17) (N := some 30) (v := ?_) (a' := ?_) (bL 23 245759) rfl rfl (any_of HT_.out (by kernel_rfl)) (fun _ _ _ h => h) (Or.inl ⟨by rfl, ?_⟩) ?_ ?_; rotate_left; (intro w'; go_simp; with_reducible rfl); rotate_left; (simp only [Act.put, List.setIfInBounds_toArray, List.set_cons_zero, List.set_cons_succ, i64_w, i32_w]; rfl)
                      refine take_ (i := 14) (N := some 27) (v := ?_) (a' := ?_) (bL 23 262143) rfl rfl (take_ofW HT_.out HW_.out (by kernel_rfl)) (fun _ _ _ h => h) (Or.inl ⟨by rfl, ?_⟩) hHeld ?_ ?_; rotate_left; (rintro w' ⟨s0, s1, s2, s3, s4, s5, s6, s7, s8, s9, s10, s11, s12, s13, s14, s15⟩; go_simp; with_reducible rfl); rotate_left; (simp only [Act.put, List.setIfInBounds_toArray, List.set_cons_zero, List.set_cons_succ, i64_w, i32_w]; rfl)
                      refine take_ (i := 18) (N := some 31) (v := ?_) (a' := ?_) (bL 23 524287) rfl rfl (take_ofW HT_.out HW_.out (by kernel_rfl)) (fun _ _ _ h => h) (Or.inl ⟨by rfl, ?_⟩) hHeld ?_ ?_; rotate_left; (rintro w' ⟨s0, s1, s2, s3, s4, s5, s6, s7, s8, s9, s10, s11, s12, s13, s14, s15⟩; go_simp; with_reducible rfl); rotate_left; (simp only [Act.put, List.setIfInBounds_toArray, List.set_cons_zero, List.set_cons_succ, i64_w, i32_w]; rfl)
                      refine one_ (i := 19) (N := some 32) (bL 23 1048575) rfl rfl (one_of HT_.out (by kernel_rfl)) (by decide) (fun K hK => ?_)
                      refine goes_ Try.func95 (by kernel_rfl) rfl #[.agg #[.int .i64 ((rd_T52 l0 (ji8)).f0), .int .i64 ((rd_T52 l0 (ji8)).f1), .int .i64 ((rd_T52 l0 (ji8)).f2), .int .i64 ((rd_T52 l0 (ji8)).f3), .int .i64 ((rd_T52 l0 (ji8)).f4), .slice A952_5 ((rd_T52 l0 (ji8)).f5).length c952_5, .int .i64 ((rd_T52 l0 (ji8)).f6), .bool ((rd_T52 l0 (ji8)).f7)], .agg #[.int .i64 ((rd_T52 l0 x3_1).f0), .int .i64 ((rd_T52 l0 x3_1).f1), .int .i64 ((rd_T52 l0 x3_1).f2), .int .i64 ((rd_T52 l0 x3_1).f3), .int .i64 ((rd_T52 l0 x3_1).f4), .slice A950_5 ((rd_T52 l0 x3_1).f5).length c950_5, .int .i64 ((rd_T52 l0 x3_1).f6), .bool ((rd_T52 l0 x3_1).f7)]] (by rfl) rfl rfl (by (try simp only [List.map_toArray, List.map_cons, List.map_nil]); first | done | (simp only [hji8]; rfl) | rfl | (simp only [List.length_drop, List.length_take]; rfl)) ?_
                      with_reducible refine (spec_Before.calls ((rd_T52 l0 (ji8)).f0) ((rd_T52 l0 (ji8)).f1) ((rd_T52 l0 (ji8)).f2) ((rd_T52 l0 (ji8)).f3) ((rd_T52 l0 (ji8)).f4) _ _ ((rd_T52 l0 (ji8)).f5) ((rd_T52 l0 (ji8)).f6) ((rd_T52 l0 (ji8)).f7) ((rd_T52 l0 x3_1).f0) ((rd_T52 l0 x3_1).f1) ((rd_T52 l0 x3_1).f2) ((rd_T52 l0 x3_1).f3) ((rd_T52 l0 x3_1).f4) _ _ ((rd_T52 l0 x3_1).f5) ((rd_T52 l0 x3_1).f6) ((rd_T52 l0 x3_1).f7) true _ ?side1 ?side2 ?side3 ?side4 A11.out).mono ?_
                      (case side1 => repeat (first | exact (Kd.C_below HR952_5.out HB.out) | (with_reducible refine Kd.C_alloc ?_ _) | (with_reducible refine Kd.C_drewN ?_ _) | (with_reducible refine Kd.C_drew ?_)))
                      (case side2 => exact HC952_5.out)
                      (case side3 => repeat (first | exact (Kd.C_below HR950_5.out HB.out) | (with_reducible refine Kd.C_alloc ?_ _) | (with_reducible refine Kd.C_drewN ?_ _) | (with_reducible refine Kd.C_drew ?_)))
                      (case side4 => exact HC950_5.out)
                      rintro e w15 ⟨rfl, hb⟩
                      refine ⟨_, rfl, ?_⟩
                      have n0_ := Aside0.mk (below_step (by repeat (first | (with_reducible first | exact HB.out | apply below_alloc | apply pw_below_drewN | apply below_drew1) | exact HB.out)) hb)
                      clear HB
                      have HB := n0_
                      clear n0_
                      (try clear hb)
                      (try clear hb2)
                      (try clear hk)
                      (try clear hi)
                      refine hK.out _ _ ⟨((HB.out.cell (World.block_lt_of_cell? w _ hw950_0)).trans hw950_0), ((HB.out.cell (World.block_lt_of_cell? w _ hw950_1)).trans hw950_1), ((HB.out.cell (World.block_lt_of_cell? w _ hw950_2)).trans hw950_2), ((HB.out.cell (World.block_lt_of_cell? w _ hw950_3)).trans hw950_3), ((HB.out.cell (World.block_lt_of_cell? w _ hw950_4)).trans hw950_4), ((HB.out.cell (World.block_lt_of_cell? w _ hw950_5)).trans hw950_5), ((HB.out.cell (World.block_lt_of_cell? w _ hw950_6)).trans hw950_6), ((HB.out.cell (World.block_lt_of_cell? w _ hw950_7)).trans hw950_7), ((HB.out.cell (World.block_lt_of_cell? w _ hw952_0)).trans hw952_0), ((HB.out.cell (World.block_lt_of_cell? w _ hw952_1)).trans hw952_1), ((HB.out.cell (World.block_lt_of_cell? w _ hw952_2)).trans hw952_2), ((HB.out.cell (World.block_lt_of_cell? w _ hw952_3)).trans hw952_3), ((HB.out.cell (World.block_lt_of_cell? w _ hw952_4)).trans hw952_4), ((HB.out.cell (World.block_lt_of_cell? w _ hw952_5)).trans hw952_5), ((HB.out.cell (World.block_lt_of_cell? w _ hw952_6)).trans hw952_6), ((HB.out.cell (World.block_lt_of_cell? w _ hw952_7)).trans hw952_7)⟩ (fun hHeld => ?_)
                      clear hK K
                      refine norm_ (a' := ?_) ?_ ?_; rotate_left; (show Act.put _ (some 32) _ = _; simp only [Act.put, List.setIfInBounds_toArray, List.set_cons_zero, List.set_cons_succ, i64_w, i32_w]; rfl)
                      refine pure_ (i := 20) (N := some 33) (v := ?_) (a' := ?_) (bL 23 2097151) rfl rfl (any_of HT_.out (by kernel_rfl)) (fun _ _ _ h => h) (Or.inl ⟨by rfl, ?_⟩) ?_ ?_; rotate_left; (intro w'; go_simp; with_reducible rfl); rotate_left; (simp only [Act.put, List.setIfInBounds_toArray, List.set_cons_zero, List.set_cons_succ, i64_w, i32_w]; rfl)
                      refine pure_ (i := 21) (N := some 34) (v := ?_) (a' := ?_) (bL 23 4194303) rfl rfl (any_of HT_.out (by kernel_rfl)) (fun _ _ _ h => h) (Or.inl ⟨by rfl, ?_⟩) ?_ ?_; rotate_left; (intro w'; go_simp; with_reducible rfl); rotate_left; (simp only [Act.put, List.setIfInBounds_toArray, List.set_cons_zero, List.set_cons_succ, i64_w, i32_w]; rfl)
                      refine pure_ (i := 22) (N := some 35) (v := ?_) (a' := ?_) (bL 23 8388607) rfl rfl (any_of HT_.out (by kernel_rfl)) (fun _ _ _ h => h) (Or.inl ⟨by rfl, ?_⟩) ?_ ?_; rotate_left; (intro w'; go_simp; with_reducible rfl); rotate_left; (simp only [Act.put, List.setIfInBounds_toArray, List.set_cons_zero, List.set_cons_succ, i64_w, i32_w]; rfl)
                      refine done_ (done_of HT_.out (by kernel_rfl)) ?_
                      try go_wp2
                      go_roundg k1
                      case measure => have := HK1.out; omega
                      case rel => exact ⟨(wrap64 (x3_1 + 1)), (by first | rfl | (simp; done) | (simp [*]; done)), H', ⟨by have := HK1.out; omega⟩, ⟨by repeat (first | (with_reducible first | exact HB.out | apply below_alloc | apply pw_below_drewN | apply below_drew1) | exact HB.out)⟩⟩
                    · replace c12 := Bool.eq_false_iff.mpr c12
                      subst c12
                      have H1 : (some false) = some r := by rw [if_neg (show ¬ (false = true) by decide)] at H; exact H
                      clear H
                      have H := H1
                      clear H1
                      obtain rfl := Option.some.inj H
                      try go_wp2
                      have n0_ := Aside0.mk (below_drew1 HB.out)
                      clear HB
                      have HB := n0_
                      clear n0_
                      have p950 : 0 ≤ (x3_1 : Int) := of_decide_eq_true (by first | (with_reducible assumption) | assumption)
                      have q950 : x3_1 < (l0.length : Int) := of_decide_eq_true (by first | (with_reducible assumption) | assumption)
                      obtain ⟨ad950, A950_5, c950_5, e950, hx950_0, hx950_1, hx950_2, hx950_3, hx950_4, hx950_5, hx950_6, hx950_7, hl950_5, hi950_5⟩ := at_T52 HR0.out x3_1 p950 q950
                      have hw950_7 := hx950_7
                      have hw950_6 := hx950_6
                      have hw950_5 := hx950_5
                      have hw950_4 := hx950_4
                      have hw950_3 := hx950_3
                      have hw950_2 := hx950_2
                      have hw950_1 := hx950_1
                      have hw950_0 := hx950_0
                      cases e950
                      replace hx950_0 := (HB.out.cell (World.block_lt_of_cell? w _ hx950_0)).trans hx950_0
                      replace hx950_1 := (HB.out.cell (World.block_lt_of_cell? w _ hx950_1)).trans hx950_1
                      replace hx950_2 := (HB.out.cell (World.block_lt_of_cell? w _ hx950_2)).trans hx950_2
                      replace hx950_3 := (HB.out.cell (World.block_lt_of_cell? w _ hx950_3)).trans hx950_3
                      replace hx950_4 := (HB.out.cell (World.block_lt_of_cell? w _ hx950_4)).trans hx950_4
                      replace hx950_5 := (HB.out.cell (World.block_lt_of_cell? w _ hx950_5)).trans hx950_5
                      replace hx950_6 := (HB.out.cell (World.block_lt_of_cell? w _ hx950_6)).trans hx950_6
                      replace hx950_7 := (HB.out.cell (World.block_lt_of_cell? w _ hx950_7)).trans hx950_7
                      have HR950_5 := Aside0.mk hi950_5
                      have HC950_5 := Aside0.mk hl950_5
                      clear hi950_5 hl950_5
                      replace p950 := eq_true p950
                      replace q950 := eq_true q950
                      have p952 : 0 ≤ ((ji8) : Int) := of_decide_eq_true (by first | (with_reducible assumption) | assumption)
                      have q952 : (ji8) < (l0.length : Int) := of_decide_eq_true (by first | (with_reducible assumption) | assumption)
                      obtain ⟨ad952, A952_5, c952_5, e952, hx952_0, hx952_1, hx952_2, hx952_3, hx952_4, hx952_5, hx952_6, hx952_7, hl952_5, hi952_5⟩ := at_T52 HR0.out (ji8) p952 q952
                      have hw952_7 := hx952_7
                      have hw952_6 := hx952_6
                      have hw952_5 := hx952_5
                      have hw952_4 := hx952_4
                      have hw952_3 := hx952_3
                      have hw952_2 := hx952_2
                      have hw952_1 := hx952_1
                      have hw952_0 := hx952_0
                      obtain rfl : ad950 = ad952 := (by injection e952)
                      replace hx952_0 := (HB.out.cell (World.block_lt_of_cell? w _ hx952_0)).trans hx952_0
                      replace hx952_1 := (HB.out.cell (World.block_lt_of_cell? w _ hx952_1)).trans hx952_1
                      replace hx952_2 := (HB.out.cell (World.block_lt_of_cell? w _ hx952_2)).trans hx952_2
                      replace hx952_3 := (HB.out.cell (World.block_lt_of_cell? w _ hx952_3)).trans hx952_3
                      replace hx952_4 := (HB.out.cell (World.block_lt_of_cell? w _ hx952_4)).trans hx952_4
                      replace hx952_5 := (HB.out.cell (World.block_lt_of_cell? w _ hx952_5)).trans hx952_5
                      replace hx952_6 := (HB.out.cell (World.block_lt_of_cell? w _ hx952_6)).trans hx952_6
                      replace hx952_7 := (HB.out.cell (World.block_lt_of_cell? w _ hx952_7)).trans hx952_7
                      have HR952_5 := Aside0.mk hi952_5
                      have HC952_5 := Aside0.mk hl952_5
                      clear hi952_5 hl952_5
                      replace p952 := eq_true p952
                      replace q952 := eq_true q952
                      refine start_ (n := 23) (S := fun w' => w'.cell? (ad950.add ((x3_1).toNat * 8)) = some (.int .i64 ((rd_T52 l0 x3_1).f0)) ∧ w'.cell? ⟨(ad950.add ((x3_1).toNat * 8)).block, (ad950.add ((x3_1).toNat * 8)).off + 1, none⟩ = some (.int .i64 ((rd_T52 l0 x3_1).f1)) ∧ w'.cell? ⟨(ad950.add ((x3_1).toNat * 8)).block, (ad950.add ((x3_1).toNat * 8)).off + 2, none⟩ = some (.int .i64 ((rd_T52 l0 x3_1).f2)) ∧ w'.cell? ⟨(ad950.add ((x3_1).toNat * 8)).block, (ad950.add ((x3_1).toNat * 8)).off + 3, none⟩ = some (.int .i64 ((rd_T52 l0 x3_1).f3)) ∧ w'.cell? ⟨(ad950.add ((x3_1).toNat * 8)).block, (ad950.add ((x3_1).toNat * 8)).off + 4, none⟩ = some (.int .i64 ((rd_T52 l0 x3_1).f4)) ∧ w'.cell? ⟨(ad950.add ((x3_1).toNat * 8)).block, (ad950.add ((x3_1).toNat * 8)).off + 5, none⟩ = some (.slice A950_5 ((rd_T52 l0 x3_1).f5).length c950_5) ∧ w'.cell? ⟨(ad950.add ((x3_1).toNat * 8)).block, (ad950.add ((x3_1).toNat * 8)).off + 6, none⟩ = some (.int .i64 ((rd_T52 l0 x3_1).f6)) ∧ w'.cell? ⟨(ad950.add ((x3_1).toNat * 8)).block, (ad950.add ((x3_1).toNat * 8)).off + 7, none⟩ = some (.bool ((rd_T52 l0 x3_1).f7)) ∧ w'.cell? (ad950.add (((ji8)).toNat * 8)) = some (.int .i64 ((rd_T52 l0 (ji8)).f0)) ∧ w'.cell? ⟨(ad950.add (((ji8)).toNat * 8)).block, (ad950.add (((ji8)).toNat * 8)).off + 1, none⟩ = some (.int .i64 ((rd_T52 l0 (ji8)).f1)) ∧ w'.cell? ⟨(ad950.add (((ji8)).toNat * 8)).block, (ad950.add (((ji8)).toNat * 8)).off + 2, none⟩ = some (.int .i64 ((rd_T52 l0 (ji8)).f2)) ∧ w'.cell? ⟨(ad950.add (((ji8)).toNat * 8)).block, (ad950.add (((ji8)).toNat * 8)).off + 3, none⟩ = some (.int .i64 ((rd_T52 l0 (ji8)).f3)) ∧ w'.cell? ⟨(ad950.add (((ji8)).toNat * 8)).block, (ad950.add (((ji8)).toNat * 8)).off + 4, none⟩ = some (.int .i64 ((rd_T52 l0 (ji8)).f4)) ∧ w'.cell? ⟨(ad950.add (((ji8)).toNat * 8)).block, (ad950.add (((ji8)).toNat * 8)).off + 5, none⟩ = some (.slice A952_5 ((rd_T52 l0 (ji8)).f5).length c952_5) ∧ w'.cell? ⟨(ad950.add (((ji8)).toNat * 8)).block, (ad950.add (((ji8)).toNat * 8)).off + 6, none⟩ = some (.int .i64 ((rd_T52 l0 (ji8)).f6)) ∧ w'.cell? ⟨(ad950.add (((ji8)).toNat * 8)).block, (ad950.add (((ji8)).toNat * 8)).off + 7, none⟩ = some (.bool ((rd_T52 l0 (ji8)).f7))) (ds := []) (bL 23 0) (by kernel_rfl) rfl rfl ⟨((HB.out.cell (World.block_lt_of_cell? w _ hw950_0)).trans hw950_0), ((HB.out.cell (World.block_lt_of_cell? w _ hw950_1)).trans hw950_1), ((HB.out.cell (World.block_lt_of_cell? w _ hw950_2)).trans hw950_2), ((HB.out.cell (World.block_lt_of_cell? w _ hw950_3)).trans hw950_3), ((HB.out.cell (World.block_lt_of_cell? w _ hw950_4)).trans hw950_4), ((HB.out.cell (World.block_lt_of_cell? w _ hw950_5)).trans hw950_5), ((HB.out.cell (World.block_lt_of_cell? w _ hw950_6)).trans hw950_6), ((HB.out.cell (World.block_lt_of_cell? w _ hw950_7)).trans hw950_7), ((HB.out.cell (World.block_lt_of_cell? w _ hw952_0)).trans hw952_0), ((HB.out.cell (World.block_lt_of_cell? w _ hw952_1)).trans hw952_1), ((HB.out.cell (World.block_lt_of_cell? w _ hw952_2)).trans hw952_2), ((HB.out.cell (World.block_lt_of_cell? w _ hw952_3)).trans hw952_3), ((HB.out.cell (World.block_lt_of_cell? w _ hw952_4)).trans hw952_4), ((HB.out.cell (World.block_lt_of_cell? w _ hw952_5)).trans hw952_5), ((HB.out.cell (World.block_lt_of_cell? w _ hw952_6)).trans hw952_6), ((HB.out.cell (World.block_lt_of_cell? w _ hw952_7)).trans hw952_7)⟩ (fun hHeld => ?_); refine with_tabW spec_StoreOk.tab6 spec_StoreOk.bits6 (fun HT_ HW_ => ?_)
                      generalize wr.drew = w16 at HB HR950_5 HR952_5 hx950_0 hx950_1 hx950_2 hx950_3 hx950_4 hx950_5 hx950_6 hx950_7 hx952_0 hx952_1 hx952_2 hx952_3 hx952_4 hx952_5 hx952_6 hx952_7 hHeld ⊢
                      refine pure_ (i := 0) (N := some 13) (v := ?_) (a' := ?_) (bL 23 1) rfl rfl (any_of HT_.out (by kernel_rfl)) (fun _ _ _ h => h) (Or.inl ⟨by rfl, ?_⟩) ?_ ?_; rotate_left; (intro w'; go_simp; with_reducible rfl); rotate_left; (simp only [Act.put, List.setIfInBounds_toArray, List.set_cons_zero, List.set_cons_succ, i64_w, i32_w]; rfl)
                      refine pure_ (i := 1) (N := some 14) (v := ?_) (a' := ?_) (bL 23 3) rfl rfl (any_of HT_.out (by kernel_rfl)) (fun _ _ _ h => h) (Or.inl ⟨by rfl, ?_⟩) ?_ ?_; rotate_left; (intro w'; go_simp; with_reducible rfl); rotate_left; (simp only [Act.put, List.setIfInBounds_toArray, List.set_cons_zero, List.set_cons_succ, i64_w, i32_w]; rfl)
                      refine pure_ (i := 2) (N := some 15) (v := ?_) (a' := ?_) (bL 23 7) rfl rfl (any_of HT_.out (by kernel_rfl)) (fun _ _ _ h => h) (Or.inl ⟨by rfl, ?_⟩) ?_ ?_; rotate_left; (intro w'; go_simp; with_reducible rfl); rotate_left; (simp only [Act.put, List.setIfInBounds_toArray, List.set_cons_zero, List.set_cons_succ, i64_w, i32_w]; rfl)
                      refine take_ (i := 3) (N := some 16) (v := ?_) (a' := ?_) (bL 23 15) rfl rfl (take_ofW HT_.out HW_.out (by kernel_rfl)) (fun _ _ _ h => h) (Or.inl ⟨by rfl, ?_⟩) hHeld ?_ ?_; rotate_left; (rintro w' ⟨s0, s1, s2, s3, s4, s5, s6, s7, s8, s9, s10, s11, s12, s13, s14, s15⟩; go_simp; with_reducible rfl); rotate_left; (simp only [Act.put, List.setIfInBounds_toArray, List.set_cons_zero, List.set_cons_succ, i64_w, i32_w]; rfl)
                      refine one_ (i := 4) (N := some 17) (bL 23 31) rfl rfl (one_of HT_.out (by kernel_rfl)) (by decide) (fun K hK => ?_)
                      refine goes_ Try.func76 (by kernel_rfl) rfl #[.agg #[.int .i64 ((rd_T52 l0 x3_1).f0), .int .i64 ((rd_T52 l0 x3_1).f1), .int .i64 ((rd_T52 l0 x3_1).f2), .int .i64 ((rd_T52 l0 x3_1).f3), .int .i64 ((rd_T52 l0 x3_1).f4), .slice A950_5 ((rd_T52 l0 x3_1).f5).length c950_5, .int .i64 ((rd_T52 l0 x3_1).f6), .bool ((rd_T52 l0 x3_1).f7)]] (by rfl) rfl rfl (by (try simp only [List.map_toArray, List.map_cons, List.map_nil]); first | done | rfl | (simp only [List.length_drop, List.length_take]; rfl)) ?_
                      with_reducible refine (spec_RecordOk.calls k1 ((rd_T52 l0 x3_1).f0) ((rd_T52 l0 x3_1).f1) ((rd_T52 l0 x3_1).f2) ((rd_T52 l0 x3_1).f3) ((rd_T52 l0 x3_1).f4) _ _ ((rd_T52 l0 x3_1).f5) ((rd_T52 l0 x3_1).f6) ((rd_T52 l0 x3_1).f7) true _ ?side1 ?side2 A5.out).mono ?_
                      (case side1 => repeat (first | exact (Kd.C_below HR950_5.out HB.out) | (with_reducible refine Kd.C_alloc ?_ _) | (with_reducible refine Kd.C_drewN ?_ _) | (with_reducible refine Kd.C_drew ?_)))
                      (case side2 => exact HC950_5.out)
                      rintro e w17 ⟨rfl, hb⟩
                      refine ⟨_, rfl, ?_⟩
                      have n0_ := Aside0.mk (below_step (by repeat (first | (with_reducible first | exact HB.out | apply below_alloc | apply pw_below_drewN | apply below_drew1) | exact HB.out)) hb)
                      clear HB
                      have HB := n0_
                      clear n0_
                      (try clear hb)
                      (try clear hb2)
                      (try clear hk)
                      (try clear hi)
                      refine hK.out _ _ ⟨((HB.out.cell (World.block_lt_of_cell? w _ hw950_0)).trans hw950_0), ((HB.out.cell (World.block_lt_of_cell? w _ hw950_1)).trans hw950_1), ((HB.out.cell (World.block_lt_of_cell? w _ hw950_2)).trans hw950_2), ((HB.out.cell (World.block_lt_of_cell? w _ hw950_3)).trans hw950_3), ((HB.out.cell (World.block_lt_of_cell? w _ hw950_4)).trans hw950_4), ((HB.out.cell (World.block_lt_of_cell? w _ hw950_5)).trans hw950_5), ((HB.out.cell (World.block_lt_of_cell? w _ hw950_6)).trans hw950_6), ((HB.out.cell (World.block_lt_of_cell? w _ hw950_7)).trans hw950_7), ((HB.out.cell (World.block_lt_of_cell? w _ hw952_0)).trans hw952_0), ((HB.out.cell (World.block_lt_of_cell? w _ hw952_1)).trans hw952_1), ((HB.out.cell (World.block_lt_of_cell? w _ hw952_2)).trans hw952_2), ((HB.out.cell (World.block_lt_of_cell? w _ hw952_3)).trans hw952_3), ((HB.out.cell (World.block_lt_of_cell? w _ hw952_4)).trans hw952_4), ((HB.out.cell (World.block_lt_of_cell? w _ hw952_5)).trans hw952_5), ((HB.out.cell (World.block_lt_of_cell? w _ hw952_6)).trans hw952_6), ((HB.out.cell (World.block_lt_of_cell? w _ hw952_7)).trans hw952_7)⟩ (fun hHeld => ?_)
                      clear hK K
                      refine norm_ (a' := ?_) ?_ ?_; rotate_left; (show Act.put _ (some 17) _ = _; simp only [Act.put, List.setIfInBounds_toArray, List.set_cons_zero, List.set_cons_succ, i64_w, i32_w]; rfl)
                      refine pure_ (i := 5) (N := some 18) (v := ?_) (a' := ?_) (bL 23 63) rfl rfl (any_of HT_.out (by kernel_rfl)) (fun _ _ _ h => h) (Or.inl ⟨by rfl, ?_⟩) ?_ ?_; rotate_left; (intro w'; go_simp; with_reducible rfl); rotate_left; (simp only [Act.put, List.setIfInBounds_toArray, List.set_cons_zero, List.set_cons_succ, i64_w, i32_w]; rfl)
                      refine pure_ (i := 6) (N := some 19) (v := ?_) (a' := ?_) (bL 23 127) rfl rfl (any_of HT_.out (by kernel_rfl)) (fun _ _ _ h => h) (Or.inl ⟨by rfl, ?_⟩) ?_ ?_; rotate_left; (intro w'; go_simp; with_reducible rfl); rotate_left; (simp only [Act.put, List.setIfInBounds_toArray, List.set_cons_zero, List.set_cons_succ, i64_w, i32_w]; rfl)
                      refine pure_ (i := 7) (N := some 20) (v := ?_) (a' := ?_) (bL 23 255) rfl rfl (any_of HT_.out (by kernel_rfl)) (fun _ _ _ h => h) (Or.inl ⟨by rfl, ?_⟩) ?_ ?_; rotate_left; (intro w'; go_simp; with_reducible rfl); rotate_left; (simp only [Act.put, List.setIfInBounds_toArray, List.set_cons_zero, List.set_cons_succ, i64_w, i32_w]; rfl)
                      refine pure_ (i := 8) (N := some 21) (v := ?_) (a' := ?_) (bL 23 511) rfl rfl (any_of HT_.out (by kernel_rfl)) (fun _ _ _ h => h) (Or.inl ⟨by rfl, ?_⟩) ?_ ?_; rotate_left; (intro w'; go_simp; with_reducible rfl); rotate_left; (simp only [Act.put, List.setIfInBounds_toArray, List.set_cons_zero, List.set_cons_succ, i64_w, i32_w]; rfl)
                      refine pure_ (i := 9) (N := some 22) (v := ?_) (a' := ?_) (bL 23 1023) rfl rfl (any_of HT_.out (by kernel_rfl)) (fun _ _ _ h => h) (Or.inl ⟨by rfl, ?_⟩) ?_ ?_; rotate_left; (intro w'; go_simp; with_reducible rfl); rotate_left; (simp only [Act.put, List.setIfInBounds_toArray, List.set_cons_zero, List.set_cons_succ, i64_w, i32_w]; rfl)
                      refine pure_ (i := 10) (N := some 23) (v := ?_) (a' := ?_) (bL 23 2047) rfl rfl (any_of HT_.out (by kernel_rfl)) (fun _ _ _ h => h) (Or.inl ⟨by rfl, ?_⟩) ?_ ?_; rotate_left; (intro w'; go_simp; with_reducible rfl); rotate_left; (simp only [Act.put, List.setIfInBounds_toArray, List.set_cons_zero, List.set_cons_succ, i64_w, i32_w]; rfl)
                      refine pure_ (i := 11) (N := some 24) (v := ?_) (a' := ?_) (bL 23 4095) rfl rfl (any_of HT_.out (by kernel_rfl)) (fun _ _ _ h => h) (Or.inl ⟨by rfl, ?_⟩) ?_ ?_; rotate_left; (intro w'; go_simp; with_reducible rfl); rotate_left; (simp only [Act.put, List.setIfInBounds_toArray, List.set_cons_zero, List.set_cons_succ, i64_w, i32_w]; rfl)
                      refine pure_ (i := 12) (N := some 25) (v := ?_) (a' := ?_) (bL 23 8191) rfl rfl (any_of HT_.out (by kernel_rfl)) (fun _ _ _ h => h) (Or.inl ⟨by rfl, ?_⟩) ?_ ?_; rotate_left; (intro w'; go_simp; with_reducible rfl); rotate_left; (simp only [Act.put, List.setIfInBounds_toArray, List.set_cons_zero, List.set_cons_succ, i64_w, i32_w]; rfl)
                      refine pure_ (i := 13) (N := some 26) (v := ?_) (a' := ?_) (bL 23 16383) rfl rfl (any_of HT_.out (by kernel_rfl)) (fun _ _ _ h => h) (Or.inl ⟨by rfl, ?_⟩) ?_ ?_; rotate_left; (intro w'; go_simp; with_reducible rfl); rotate_left; (simp only [Act.put, List.setIfInBounds_toArray, List.set_cons_zero, List.set_cons_succ, i64_w, i32_w]; rfl)
                      refine pure_ (i := 15) (N := some 28) (v := ?_) (a' := ?_) (bL 23 49151) rfl rfl (any_of HT_.out (by kernel_rfl)) (fun _ _ _ h => h) (Or.inl ⟨by rfl, ?_⟩) ?_ ?_; rotate_left; (intro w'; go_simp; with_reducible rfl); rotate_left; (simp only [Act.put, List.setIfInBounds_toArray, List.set_cons_zero, List.set_cons_succ, i64_w, i32_w]; rfl)
                      refine pure_ (i := 16) (N := some 29) (v := ?_) (a' := ?_) (bL 23 114687) rfl rfl (any_of HT_.out (by kernel_rfl)) (fun _ _ _ h => h) (Or.inl ⟨by rfl, ?_⟩) ?_ ?_; rotate_left; (intro w'; go_simp; with_reducible rfl); rotate_left; (simp only [Act.put, List.setIfInBounds_toArray, List.set_cons_zero, List.set_cons_succ, i64_w, i32_w]; rfl)
                      refine pure_ (i := 17) (N := some 30) (v := ?_) (a' := ?_) (bL 23 245759) rfl rfl (any_of HT_.out (by kernel_rfl)) (fun _ _ _ h => h) (Or.inl ⟨by rfl, ?_⟩) ?_ ?_; rotate_left; (intro w'; go_simp; with_reducible rfl); rotate_left; (simp only [Act.put, List.setIfInBounds_toArray, List.set_cons_zero, List.set_cons_succ, i64_w, i32_w]; rfl)
                      refine take_ (i := 14) (N := some 27) (v := ?_) (a' := ?_) (bL 23 262143) rfl rfl (take_ofW HT_.out HW_.out (by kernel_rfl)) (fun _ _ _ h => h) (Or.inl ⟨by rfl, ?_⟩) hHeld ?_ ?_; rotate_left; (rintro w' ⟨s0, s1, s2, s3, s4, s5, s6, s7, s8, s9, s10, s11, s12, s13, s14, s15⟩; go_simp; with_reducible rfl); rotate_left; (simp only [Act.put, List.setIfInBounds_toArray, List.set_cons_zero, List.set_cons_succ, i64_w, i32_w]; rfl)
                      refine take_ (i := 18) (N := some 31) (v := ?_) (a' := ?_) (bL 23 524287) rfl rfl (take_ofW HT_.out HW_.out (by kernel_rfl)) (fun _ _ _ h => h) (Or.inl ⟨by rfl, ?_⟩) hHeld ?_ ?_; rotate_left; (rintro w' ⟨s0, s1, s2, s3, s4, s5, s6, s7, s8, s9, s10, s11, s12, s13, s14, s15⟩; go_simp; with_reducible rfl); rotate_left; (simp only [Act.put, List.setIfInBounds_toArray, List.set_cons_zero, List.set_cons_succ, i64_w, i32_w]; rfl)
                      refine one_ (i := 19) (N := some 32) (bL 23 1048575) rfl rfl (one_of HT_.out (by kernel_rfl)) (by decide) (fun K hK => ?_)
                      refine goes_ Try.func95 (by kernel_rfl) rfl #[.agg #[.int .i64 ((rd_T52 l0 (ji8)).f0), .int .i64 ((rd_T52 l0 (ji8)).f1), .int .i64 ((rd_T52 l0 (ji8)).f2), .int .i64 ((rd_T52 l0 (ji8)).f3), .int .i64 ((rd_T52 l0 (ji8)).f4), .slice A952_5 ((rd_T52 l0 (ji8)).f5).length c952_5, .int .i64 ((rd_T52 l0 (ji8)).f6), .bool ((rd_T52 l0 (ji8)).f7)], .agg #[.int .i64 ((rd_T52 l0 x3_1).f0), .int .i64 ((rd_T52 l0 x3_1).f1), .int .i64 ((rd_T52 l0 x3_1).f2), .int .i64 ((rd_T52 l0 x3_1).f3), .int .i64 ((rd_T52 l0 x3_1).f4), .slice A950_5 ((rd_T52 l0 x3_1).f5).length c950_5, .int .i64 ((rd_T52 l0 x3_1).f6), .bool ((rd_T52 l0 x3_1).f7)]] (by rfl) rfl rfl (by (try simp only [List.map_toArray, List.map_cons, List.map_nil]); first | done | (simp only [hji8]; rfl) | rfl | (simp only [List.length_drop, List.length_take]; rfl)) ?_
                      with_reducible refine (spec_Before.calls ((rd_T52 l0 (ji8)).f0) ((rd_T52 l0 (ji8)).f1) ((rd_T52 l0 (ji8)).f2) ((rd_T52 l0 (ji8)).f3) ((rd_T52 l0 (ji8)).f4) _ _ ((rd_T52 l0 (ji8)).f5) ((rd_T52 l0 (ji8)).f6) ((rd_T52 l0 (ji8)).f7) ((rd_T52 l0 x3_1).f0) ((rd_T52 l0 x3_1).f1) ((rd_T52 l0 x3_1).f2) ((rd_T52 l0 x3_1).f3) ((rd_T52 l0 x3_1).f4) _ _ ((rd_T52 l0 x3_1).f5) ((rd_T52 l0 x3_1).f6) ((rd_T52 l0 x3_1).f7) false _ ?side1 ?side2 ?side3 ?side4 A11.out).mono ?_
                      (case side1 => repeat (first | exact (Kd.C_below HR952_5.out HB.out) | (with_reducible refine Kd.C_alloc ?_ _) | (with_reducible refine Kd.C_drewN ?_ _) | (with_reducible refine Kd.C_drew ?_)))
                      (case side2 => exact HC952_5.out)
                      (case side3 => repeat (first | exact (Kd.C_below HR950_5.out HB.out) | (with_reducible refine Kd.C_alloc ?_ _) | (with_reducible refine Kd.C_drewN ?_ _) | (with_reducible refine Kd.C_drew ?_)))
                      (case side4 => exact HC950_5.out)
                      rintro e w18 ⟨rfl, hb⟩
                      refine ⟨_, rfl, ?_⟩
                      have n0_ := Aside0.mk (below_step (by repeat (first | (with_reducible first | exact HB.out | apply below_alloc | apply pw_below_drewN | apply below_drew1) | exact HB.out)) hb)
                      clear HB
                      have HB := n0_
                      clear n0_
                      (try clear hb)
                      (try clear hb2)
                      (try clear hk)
                      (try clear hi)
                      refine hK.out _ _ ⟨((HB.out.cell (World.block_lt_of_cell? w _ hw950_0)).trans hw950_0), ((HB.out.cell (World.block_lt_of_cell? w _ hw950_1)).trans hw950_1), ((HB.out.cell (World.block_lt_of_cell? w _ hw950_2)).trans hw950_2), ((HB.out.cell (World.block_lt_of_cell? w _ hw950_3)).trans hw950_3), ((HB.out.cell (World.block_lt_of_cell? w _ hw950_4)).trans hw950_4), ((HB.out.cell (World.block_lt_of_cell? w _ hw950_5)).trans hw950_5), ((HB.out.cell (World.block_lt_of_cell? w _ hw950_6)).trans hw950_6), ((HB.out.cell (World.block_lt_of_cell? w _ hw950_7)).trans hw950_7), ((HB.out.cell (World.block_lt_of_cell? w _ hw952_0)).trans hw952_0), ((HB.out.cell (World.block_lt_of_cell? w _ hw952_1)).trans hw952_1), ((HB.out.cell (World.block_lt_of_cell? w _ hw952_2)).trans hw952_2), ((HB.out.cell (World.block_lt_of_cell? w _ hw952_3)).trans hw952_3), ((HB.out.cell (World.block_lt_of_cell? w _ hw952_4)).trans hw952_4), ((HB.out.cell (World.block_lt_of_cell? w _ hw952_5)).trans hw952_5), ((HB.out.cell (World.block_lt_of_cell? w _ hw952_6)).trans hw952_6), ((HB.out.cell (World.block_lt_of_cell? w _ hw952_7)).trans hw952_7)⟩ (fun hHeld => ?_)
                      clear hK K
                      refine norm_ (a' := ?_) ?_ ?_; rotate_left; (show Act.put _ (some 32) _ = _; simp only [Act.put, List.setIfInBounds_toArray, List.set_cons_zero, List.set_cons_succ, i64_w, i32_w]; rfl)
                      refine pure_ (i := 20) (N := some 33) (v := ?_) (a' := ?_) (bL 23 2097151) rfl rfl (any_of HT_.out (by kernel_rfl)) (fun _ _ _ h => h) (Or.inl ⟨by rfl, ?_⟩) ?_ ?_; rotate_left; (intro w'; go_simp; with_reducible rfl); rotate_left; (simp only [Act.put, List.setIfInBounds_toArray, List.set_cons_zero, List.set_cons_succ, i64_w, i32_w]; rfl)
                      refine pure_ (i := 21) (N := some 34) (v := ?_) (a' := ?_) (bL 23 4194303) rfl rfl (any_of HT_.out (by kernel_rfl)) (fun _ _ _ h => h) (Or.inl ⟨by rfl, ?_⟩) ?_ ?_; rotate_left; (intro w'; go_simp; with_reducible rfl); rotate_left; (simp only [Act.put, List.setIfInBounds_toArray, List.set_cons_zero, List.set_cons_succ, i64_w, i32_w]; rfl)
                      refine pure_ (i := 22) (N := some 35) (v := ?_) (a' := ?_) (bL 23 8388607) rfl rfl (any_of HT_.out (by kernel_rfl)) (fun _ _ _ h => h) (Or.inl ⟨by rfl, ?_⟩) ?_ ?_; rotate_left; (intro w'; go_simp; with_reducible rfl); rotate_left; (simp only [Act.put, List.setIfInBounds_toArray, List.set_cons_zero, List.set_cons_succ, i64_w, i32_w]; rfl)
                      refine done_ (done_of HT_.out (by kernel_rfl)) ?_
                      try go_wp2
                      go_ret
                      exact ⟨by first | rfl | (simp [errW_none, errW_some] <;> rfl) | (simp only [← hji8]; first | rfl | (simp [errW_none, errW_some] <;> rfl)) | (simp [*, errW_none, errW_some] <;> rfl), by repeat (first | (with_reducible first | exact HB.out | apply below_alloc | apply pw_below_drewN | apply below_drew1) | exact HB.out)⟩
                  · rw [if_neg c10] at H
                    exact absurd H (by simp)
                · rw [if_neg c9] at H
                  exact absurd H (by simp)
              · rw [if_neg c7] at H
                have c7b0 : decide (0 < x3_1) = false := decide_eq_false c7
                clear c7
                have H' := Aside0.mk H
                clear H
                try go_wp2
                have n0_ := Aside0.mk (below_drew1 HB.out)
                clear HB
                have HB := n0_
                clear n0_
                have p950 : 0 ≤ (x3_1 : Int) := of_decide_eq_true (by first | (with_reducible assumption) | assumption)
                have q950 : x3_1 < (l0.length : Int) := of_decide_eq_true (by first | (with_reducible assumption) | assumption)
                obtain ⟨ad950, A950_5, c950_5, e950, hx950_0, hx950_1, hx950_2, hx950_3, hx950_4, hx950_5, hx950_6, hx950_7, hl950_5, hi950_5⟩ := at_T52 HR0.out x3_1 p950 q950
                have hw950_7 := hx950_7
                have hw950_6 := hx950_6
                have hw950_5 := hx950_5
                have hw950_4 := hx950_4
                have hw950_3 := hx950_3
                have hw950_2 := hx950_2
                have hw950_1 := hx950_1
                have hw950_0 := hx950_0
                cases e950
                replace hx950_0 := (HB.out.cell (World.block_lt_of_cell? w _ hx950_0)).trans hx950_0
                replace hx950_1 := (HB.out.cell (World.block_lt_of_cell? w _ hx950_1)).trans hx950_1
                replace hx950_2 := (HB.out.cell (World.block_lt_of_cell? w _ hx950_2)).trans hx950_2
                replace hx950_3 := (HB.out.cell (World.block_lt_of_cell? w _ hx950_3)).trans hx950_3
                replace hx950_4 := (HB.out.cell (World.block_lt_of_cell? w _ hx950_4)).trans hx950_4
                replace hx950_5 := (HB.out.cell (World.block_lt_of_cell? w _ hx950_5)).trans hx950_5
                replace hx950_6 := (HB.out.cell (World.block_lt_of_cell? w _ hx950_6)).trans hx950_6
                replace hx950_7 := (HB.out.cell (World.block_lt_of_cell? w _ hx950_7)).trans hx950_7
                have HR950_5 := Aside0.mk hi950_5
                have HC950_5 := Aside0.mk hl950_5
                clear hi950_5 hl950_5
                replace p950 := eq_true p950
                replace q950 := eq_true q950
                refine start_ (n := 23) (S := fun w' => w'.cell? (ad950.add ((x3_1).toNat * 8)) = some (.int .i64 ((rd_T52 l0 x3_1).f0)) ∧ w'.cell? ⟨(ad950.add ((x3_1).toNat * 8)).block, (ad950.add ((x3_1).toNat * 8)).off + 1, none⟩ = some (.int .i64 ((rd_T52 l0 x3_1).f1)) ∧ w'.cell? ⟨(ad950.add ((x3_1).toNat * 8)).block, (ad950.add ((x3_1).toNat * 8)).off + 2, none⟩ = some (.int .i64 ((rd_T52 l0 x3_1).f2)) ∧ w'.cell? ⟨(ad950.add ((x3_1).toNat * 8)).block, (ad950.add ((x3_1).toNat * 8)).off + 3, none⟩ = some (.int .i64 ((rd_T52 l0 x3_1).f3)) ∧ w'.cell? ⟨(ad950.add ((x3_1).toNat * 8)).block, (ad950.add ((x3_1).toNat * 8)).off + 4, none⟩ = some (.int .i64 ((rd_T52 l0 x3_1).f4)) ∧ w'.cell? ⟨(ad950.add ((x3_1).toNat * 8)).block, (ad950.add ((x3_1).toNat * 8)).off + 5, none⟩ = some (.slice A950_5 ((rd_T52 l0 x3_1).f5).length c950_5) ∧ w'.cell? ⟨(ad950.add ((x3_1).toNat * 8)).block, (ad950.add ((x3_1).toNat * 8)).off + 6, none⟩ = some (.int .i64 ((rd_T52 l0 x3_1).f6)) ∧ w'.cell? ⟨(ad950.add ((x3_1).toNat * 8)).block, (ad950.add ((x3_1).toNat * 8)).off + 7, none⟩ = some (.bool ((rd_T52 l0 x3_1).f7))) (ds := []) (bL 23 0) (by kernel_rfl) rfl rfl ⟨((HB.out.cell (World.block_lt_of_cell? w _ hw950_0)).trans hw950_0), ((HB.out.cell (World.block_lt_of_cell? w _ hw950_1)).trans hw950_1), ((HB.out.cell (World.block_lt_of_cell? w _ hw950_2)).trans hw950_2), ((HB.out.cell (World.block_lt_of_cell? w _ hw950_3)).trans hw950_3), ((HB.out.cell (World.block_lt_of_cell? w _ hw950_4)).trans hw950_4), ((HB.out.cell (World.block_lt_of_cell? w _ hw950_5)).trans hw950_5), ((HB.out.cell (World.block_lt_of_cell? w _ hw950_6)).trans hw950_6), ((HB.out.cell (World.block_lt_of_cell? w _ hw950_7)).trans hw950_7)⟩ (fun hHeld => ?_); refine with_tabW spec_StoreOk.tab6 spec_StoreOk.bits6 (fun HT_ HW_ => ?_)
                generalize wr.drew = w19 at HB HR950_5 hx950_0 hx950_1 hx950_2 hx950_3 hx950_4 hx950_5 hx950_6 hx950_7 hHeld ⊢
                refine pure_ (i := 0) (N := some 13) (v := ?_) (a' := ?_) (bL 23 1) rfl rfl (any_of HT_.out (by kernel_rfl)) (fun _ _ _ h => h) (Or.inl ⟨by rfl, ?_⟩) ?_ ?_; rotate_left; (intro w'; go_simp; with_reducible rfl); rotate_left; (simp only [Act.put, List.setIfInBounds_toArray, List.set_cons_zero, List.set_cons_succ, i64_w, i32_w]; rfl)
                refine pure_ (i := 1) (N := some 14) (v := ?_) (a' := ?_) (bL 23 3) rfl rfl (any_of HT_.out (by kernel_rfl)) (fun _ _ _ h => h) (Or.inl ⟨by rfl, ?_⟩) ?_ ?_; rotate_left; (intro w'; go_simp; with_reducible rfl); rotate_left; (simp only [Act.put, List.setIfInBounds_toArray, List.set_cons_zero, List.set_cons_succ, i64_w, i32_w]; rfl)
                refine pure_ (i := 2) (N := some 15) (v := ?_) (a' := ?_) (bL 23 7) rfl rfl (any_of HT_.out (by kernel_rfl)) (fun _ _ _ h => h) (Or.inl ⟨by rfl, ?_⟩) ?_ ?_; rotate_left; (intro w'; go_simp; with_reducible rfl); rotate_left; (simp only [Act.put, List.setIfInBounds_toArray, List.set_cons_zero, List.set_cons_succ, i64_w, i32_w]; rfl)
                refine take_ (i := 3) (N := some 16) (v := ?_) (a' := ?_) (bL 23 15) rfl rfl (take_ofW HT_.out HW_.out (by kernel_rfl)) (fun _ _ _ h => h) (Or.inl ⟨by rfl, ?_⟩) hHeld ?_ ?_; rotate_left; (rintro w' ⟨s0, s1, s2, s3, s4, s5, s6, s7⟩; go_simp; with_reducible rfl); rotate_left; (simp only [Act.put, List.setIfInBounds_toArray, List.set_cons_zero, List.set_cons_succ, i64_w, i32_w]; rfl)
                refine one_ (i := 4) (N := some 17) (bL 23 31) rfl rfl (one_of HT_.out (by kernel_rfl)) (by decide) (fun K hK => ?_)
                refine goes_ Try.func76 (by kernel_rfl) rfl #[.agg #[.int .i64 ((rd_T52 l0 x3_1).f0), .int .i64 ((rd_T52 l0 x3_1).f1), .int .i64 ((rd_T52 l0 x3_1).f2), .int .i64 ((rd_T52 l0 x3_1).f3), .int .i64 ((rd_T52 l0 x3_1).f4), .slice A950_5 ((rd_T52 l0 x3_1).f5).length c950_5, .int .i64 ((rd_T52 l0 x3_1).f6), .bool ((rd_T52 l0 x3_1).f7)]] (by rfl) rfl rfl (by (try simp only [List.map_toArray, List.map_cons, List.map_nil]); first | done | rfl | (simp only [List.length_drop, List.length_take]; rfl)) ?_
                with_reducible refine (spec_RecordOk.calls k1 ((rd_T52 l0 x3_1).f0) ((rd_T52 l0 x3_1).f1) ((rd_T52 l0 x3_1).f2) ((rd_T52 l0 x3_1).f3) ((rd_T52 l0 x3_1).f4) _ _ ((rd_T52 l0 x3_1).f5) ((rd_T52 l0 x3_1).f6) ((rd_T52 l0 x3_1).f7) true _ ?side1 ?side2 A5.out).mono ?_
                (case side1 => repeat (first | exact (Kd.C_below HR950_5.out HB.out) | (with_reducible refine Kd.C_alloc ?_ _) | (with_reducible refine Kd.C_drewN ?_ _) | (with_reducible refine Kd.C_drew ?_)))
                (case side2 => exact HC950_5.out)
                rintro e w20 ⟨rfl, hb⟩
                refine ⟨_, rfl, ?_⟩
                have n0_ := Aside0.mk (below_step (by repeat (first | (with_reducible first | exact HB.out | apply below_alloc | apply pw_below_drewN | apply below_drew1) | exact HB.out)) hb)
                clear HB
                have HB := n0_
                clear n0_
                (try clear hb)
                (try clear hb2)
                (try clear hk)
                (try clear hi)
                refine hK.out _ _ ⟨((HB.out.cell (World.block_lt_of_cell? w _ hw950_0)).trans hw950_0), ((HB.out.cell (World.block_lt_of_cell? w _ hw950_1)).trans hw950_1), ((HB.out.cell (World.block_lt_of_cell? w _ hw950_2)).trans hw950_2), ((HB.out.cell (World.block_lt_of_cell? w _ hw950_3)).trans hw950_3), ((HB.out.cell (World.block_lt_of_cell? w _ hw950_4)).trans hw950_4), ((HB.out.cell (World.block_lt_of_cell? w _ hw950_5)).trans hw950_5), ((HB.out.cell (World.block_lt_of_cell? w _ hw950_6)).trans hw950_6), ((HB.out.cell (World.block_lt_of_cell? w _ hw950_7)).trans hw950_7)⟩ (fun hHeld => ?_)
                clear hK K
                refine norm_ (a' := ?_) ?_ ?_; rotate_left; (show Act.put _ (some 17) _ = _; simp only [Act.put, List.setIfInBounds_toArray, List.set_cons_zero, List.set_cons_succ, i64_w, i32_w]; rfl)
                refine pure_ (i := 5) (N := some 18) (v := ?_) (a' := ?_) (bL 23 63) rfl rfl (any_of HT_.out (by kernel_rfl)) (fun _ _ _ h => h) (Or.inl ⟨by rfl, ?_⟩) ?_ ?_; rotate_left; (intro w'; go_simp; with_reducible rfl); rotate_left; (simp only [Act.put, List.setIfInBounds_toArray, List.set_cons_zero, List.set_cons_succ, i64_w, i32_w]; rfl)
                refine pure_ (i := 6) (N := some 19) (v := ?_) (a' := ?_) (bL 23 127) rfl rfl (any_of HT_.out (by kernel_rfl)) (fun _ _ _ h => h) (Or.inl ⟨by rfl, ?_⟩) ?_ ?_; rotate_left; (intro w'; go_simp; with_reducible rfl); rotate_left; (simp only [Act.put, List.setIfInBounds_toArray, List.set_cons_zero, List.set_cons_succ, i64_w, i32_w]; rfl)
                refine pure_ (i := 7) (N := some 20) (v := ?_) (a' := ?_) (bL 23 255) rfl rfl (any_of HT_.out (by kernel_rfl)) (fun _ _ _ h => h) (Or.inl ⟨by rfl, ?_⟩) ?_ ?_; rotate_left; (intro w'; go_simp; with_reducible rfl); rotate_left; (simp only [Act.put, List.setIfInBounds_toArray, List.set_cons_zero, List.set_cons_succ, i64_w, i32_w]; rfl)
                refine pure_ (i := 8) (N := some 21) (v := ?_) (a' := ?_) (bL 23 511) rfl rfl (any_of HT_.out (by kernel_rfl)) (fun _ _ _ h => h) (Or.inl ⟨by rfl, ?_⟩) ?_ ?_; rotate_left; (intro w'; go_simp; with_reducible rfl); rotate_left; (simp only [Act.put, List.setIfInBounds_toArray, List.set_cons_zero, List.set_cons_succ, i64_w, i32_w]; rfl)
                refine pure_ (i := 9) (N := some 22) (v := ?_) (a' := ?_) (bL 23 1023) rfl rfl (any_of HT_.out (by kernel_rfl)) (fun _ _ _ h => h) (Or.inl ⟨by rfl, ?_⟩) ?_ ?_; rotate_left; (intro w'; go_simp; with_reducible rfl); rotate_left; (simp only [Act.put, List.setIfInBounds_toArray, List.set_cons_zero, List.set_cons_succ, i64_w, i32_w]; rfl)
                refine pure_ (i := 10) (N := some 23) (v := undef) (a' := ?_) (bL 23 2047) rfl rfl (any_of HT_.out (by kernel_rfl)) (fun _ _ _ h => h) (Or.inr ⟨by rfl, rfl⟩) ?_ ?_; rotate_left; (simp only [Act.put, List.setIfInBounds_toArray, List.set_cons_zero, List.set_cons_succ, i64_w, i32_w]; rfl)
                refine pure_ (i := 11) (N := some 24) (v := undef) (a' := ?_) (bL 23 4095) rfl rfl (any_of HT_.out (by kernel_rfl)) (fun _ _ _ h => h) (Or.inr ⟨by rfl, rfl⟩) ?_ ?_; rotate_left; (simp only [Act.put, List.setIfInBounds_toArray, List.set_cons_zero, List.set_cons_succ, i64_w, i32_w]; rfl)
                refine pure_ (i := 12) (N := some 25) (v := undef) (a' := ?_) (bL 23 8191) rfl rfl (any_of HT_.out (by kernel_rfl)) (fun _ _ _ h => h) (Or.inr ⟨by rfl, rfl⟩) ?_ ?_; rotate_left; (simp only [Act.put, List.setIfInBounds_toArray, List.set_cons_zero, List.set_cons_succ, i64_w, i32_w]; rfl)
                refine pure_ (i := 13) (N := some 26) (v := undef) (a' := ?_) (bL 23 16383) rfl rfl (any_of HT_.out (by kernel_rfl)) (fun _ _ _ h => h) (Or.inr ⟨by rfl, rfl⟩) ?_ ?_; rotate_left; (simp only [Act.put, List.setIfInBounds_toArray, List.set_cons_zero, List.set_cons_succ, i64_w, i32_w]; rfl)
                refine pure_ (i := 14) (N := some 27) (v := undef) (a' := ?_) (bL 23 32767) rfl rfl (any_of HT_.out (by kernel_rfl)) (fun _ _ _ h => h) (Or.inr ⟨by rfl, rfl⟩) ?_ ?_; rotate_left; (simp only [Act.put, List.setIfInBounds_toArray, List.set_cons_zero, List.set_cons_succ, i64_w, i32_w]; rfl)
                refine pure_ (i := 15) (N := some 28) (v := undef) (a' := ?_) (bL 23 65535) rfl rfl (any_of HT_.out (by kernel_rfl)) (fun _ _ _ h => h) (Or.inr ⟨by rfl, rfl⟩) ?_ ?_; rotate_left; (simp only [Act.put, List.setIfInBounds_toArray, List.set_cons_zero, List.set_cons_succ, i64_w, i32_w]; rfl)
                refine pure_ (i := 16) (N := some 29) (v := undef) (a' := ?_) (bL 23 131071) rfl rfl (any_of HT_.out (by kernel_rfl)) (fun _ _ _ h => h) (Or.inr ⟨by rfl, rfl⟩) ?_ ?_; rotate_left; (simp only [Act.put, List.setIfInBounds_toArray, List.set_cons_zero, List.set_cons_succ, i64_w, i32_w]; rfl)
                refine pure_ (i := 17) (N := some 30) (v := undef) (a' := ?_) (bL 23 262143) rfl rfl (any_of HT_.out (by kernel_rfl)) (fun _ _ _ h => h) (Or.inr ⟨by rfl, rfl⟩) ?_ ?_; rotate_left; (simp only [Act.put, List.setIfInBounds_toArray, List.set_cons_zero, List.set_cons_succ, i64_w, i32_w]; rfl)
                refine pure_ (i := 18) (N := some 31) (v := undef) (a' := ?_) (bL 23 524287) rfl rfl (any_of HT_.out (by kernel_rfl)) (fun _ _ _ h => h) (Or.inr ⟨by rfl, rfl⟩) ?_ ?_; rotate_left; (simp only [Act.put, List.setIfInBounds_toArray, List.set_cons_zero, List.set_cons_succ, i64_w, i32_w]; rfl)
                refine pure_ (i := 19) (N := some 32) (v := undef) (a' := ?_) (bL 23 1048575) rfl rfl (any_of HT_.out (by kernel_rfl)) (fun _ _ _ h => h) (Or.inr ⟨by rfl, rfl⟩) ?_ ?_; rotate_left; (simp only [Act.put, List.setIfInBounds_toArray, List.set_cons_zero, List.set_cons_succ, i64_w, i32_w]; rfl)
                refine pure_ (i := 20) (N := some 33) (v := undef) (a' := ?_) (bL 23 2097151) rfl rfl (any_of HT_.out (by kernel_rfl)) (fun _ _ _ h => h) (Or.inr ⟨by rfl, rfl⟩) ?_ ?_; rotate_left; (simp only [Act.put, List.setIfInBounds_toArray, List.set_cons_zero, List.set_cons_succ, i64_w, i32_w]; rfl)
                refine pure_ (i := 21) (N := some 34) (v := ?_) (a' := ?_) (bL 23 4194303) rfl rfl (any_of HT_.out (by kernel_rfl)) (fun _ _ _ h => h) (Or.inl ⟨by rfl, ?_⟩) ?_ ?_; rotate_left; (intro w'; go_simp; with_reducible rfl); rotate_left; (simp only [Act.put, List.setIfInBounds_toArray, List.set_cons_zero, List.set_cons_succ, i64_w, i32_w]; rfl)
                refine pure_ (i := 22) (N := some 35) (v := ?_) (a' := ?_) (bL 23 8388607) rfl rfl (any_of HT_.out (by kernel_rfl)) (fun _ _ _ h => h) (Or.inl ⟨by rfl, ?_⟩) ?_ ?_; rotate_left; (intro w'; go_simp; with_reducible rfl); rotate_left; (simp only [Act.put, List.setIfInBounds_toArray, List.set_cons_zero, List.set_cons_succ, i64_w, i32_w]; rfl)
                refine done_ (done_of HT_.out (by kernel_rfl)) ?_
                try go_wp2
                go_roundg k1
                case measure => have := HK1.out; omega
                case rel => exact ⟨(wrap64 (x3_1 + 1)), (by first | rfl | (simp; done) | (simp [*]; done)), H', ⟨by have := HK1.out; omega⟩, ⟨by repeat (first | (with_reducible first | exact HB.out | apply below_alloc | apply pw_below_drewN | apply below_drew1) | exact HB.out)⟩⟩
            · replace c6 := Bool.eq_false_iff.mpr c6
              subst c6
              have H1 : (some false) = some r := by rw [if_neg (show ¬ (false = true) by decide)] at H; exact H
              clear H
              have H := H1
              clear H1
              obtain rfl := Option.some.inj H
              try go_wp2
              have n0_ := Aside0.mk (below_drew1 HB.out)
              clear HB
              have HB := n0_
              clear n0_
              have p950 : 0 ≤ (x3_1 : Int) := of_decide_eq_true (by first | (with_reducible assumption) | assumption)
              have q950 : x3_1 < (l0.length : Int) := of_decide_eq_true (by first | (with_reducible assumption) | assumption)
              obtain ⟨ad950, A950_5, c950_5, e950, hx950_0, hx950_1, hx950_2, hx950_3, hx950_4, hx950_5, hx950_6, hx950_7, hl950_5, hi950_5⟩ := at_T52 HR0.out x3_1 p950 q950
              have hw950_7 := hx950_7
              have hw950_6 := hx950_6
              have hw950_5 := hx950_5
              have hw950_4 := hx950_4
              have hw950_3 := hx950_3
              have hw950_2 := hx950_2
              have hw950_1 := hx950_1
              have hw950_0 := hx950_0
              cases e950
              replace hx950_0 := (HB.out.cell (World.block_lt_of_cell? w _ hx950_0)).trans hx950_0
              replace hx950_1 := (HB.out.cell (World.block_lt_of_cell? w _ hx950_1)).trans hx950_1
              replace hx950_2 := (HB.out.cell (World.block_lt_of_cell? w _ hx950_2)).trans hx950_2
              replace hx950_3 := (HB.out.cell (World.block_lt_of_cell? w _ hx950_3)).trans hx950_3
              replace hx950_4 := (HB.out.cell (World.block_lt_of_cell? w _ hx950_4)).trans hx950_4
              replace hx950_5 := (HB.out.cell (World.block_lt_of_cell? w _ hx950_5)).trans hx950_5
              replace hx950_6 := (HB.out.cell (World.block_lt_of_cell? w _ hx950_6)).trans hx950_6
              replace hx950_7 := (HB.out.cell (World.block_lt_of_cell? w _ hx950_7)).trans hx950_7
              have HR950_5 := Aside0.mk hi950_5
              have HC950_5 := Aside0.mk hl950_5
              clear hi950_5 hl950_5
              replace p950 := eq_true p950
              replace q950 := eq_true q950
              refine start_ (n := 23) (S := fun w' => w'.cell? (ad950.add ((x3_1).toNat * 8)) = some (.int .i64 ((rd_T52 l0 x3_1).f0)) ∧ w'.cell? ⟨(ad950.add ((x3_1).toNat * 8)).block, (ad950.add ((x3_1).toNat * 8)).off + 1, none⟩ = some (.int .i64 ((rd_T52 l0 x3_1).f1)) ∧ w'.cell? ⟨(ad950.add ((x3_1).toNat * 8)).block, (ad950.add ((x3_1).toNat * 8)).off + 2, none⟩ = some (.int .i64 ((rd_T52 l0 x3_1).f2)) ∧ w'.cell? ⟨(ad950.add ((x3_1).toNat * 8)).block, (ad950.add ((x3_1).toNat * 8)).off + 3, none⟩ = some (.int .i64 ((rd_T52 l0 x3_1).f3)) ∧ w'.cell? ⟨(ad950.add ((x3_1).toNat * 8)).block, (ad950.add ((x3_1).toNat * 8)).off + 4, none⟩ = some (.int .i64 ((rd_T52 l0 x3_1).f4)) ∧ w'.cell? ⟨(ad950.add ((x3_1).toNat * 8)).block, (ad950.add ((x3_1).toNat * 8)).off + 5, none⟩ = some (.slice A950_5 ((rd_T52 l0 x3_1).f5).length c950_5) ∧ w'.cell? ⟨(ad950.add ((x3_1).toNat * 8)).block, (ad950.add ((x3_1).toNat * 8)).off + 6, none⟩ = some (.int .i64 ((rd_T52 l0 x3_1).f6)) ∧ w'.cell? ⟨(ad950.add ((x3_1).toNat * 8)).block, (ad950.add ((x3_1).toNat * 8)).off + 7, none⟩ = some (.bool ((rd_T52 l0 x3_1).f7))) (ds := []) (bL 23 0) (by kernel_rfl) rfl rfl ⟨((HB.out.cell (World.block_lt_of_cell? w _ hw950_0)).trans hw950_0), ((HB.out.cell (World.block_lt_of_cell? w _ hw950_1)).trans hw950_1), ((HB.out.cell (World.block_lt_of_cell? w _ hw950_2)).trans hw950_2), ((HB.out.cell (World.block_lt_of_cell? w _ hw950_3)).trans hw950_3), ((HB.out.cell (World.block_lt_of_cell? w _ hw950_4)).trans hw950_4), ((HB.out.cell (World.block_lt_of_cell? w _ hw950_5)).trans hw950_5), ((HB.out.cell (World.block_lt_of_cell? w _ hw950_6)).trans hw950_6), ((HB.out.cell (World.block_lt_of_cell? w _ hw950_7)).trans hw950_7)⟩ (fun hHeld => ?_); refine with_tabW spec_StoreOk.tab6 spec_StoreOk.bits6 (fun HT_ HW_ => ?_)
              generalize wr.drew = w21 at HB HR950_5 hx950_0 hx950_1 hx950_2 hx950_3 hx950_4 hx950_5 hx950_6 hx950_7 hHeld ⊢
              refine pure_ (i := 0) (N := some 13) (v := ?_) (a' := ?_) (bL 23 1) rfl rfl (any_of HT_.out (by kernel_rfl)) (fun _ _ _ h => h) (Or.inl ⟨by rfl, ?_⟩) ?_ ?_; rotate_left; (intro w'; go_simp; with_reducible rfl); rotate_left; (simp only [Act.put, List.setIfInBounds_toArray, List.set_cons_zero, List.set_cons_succ, i64_w, i32_w]; rfl)
              refine pure_ (i := 1) (N := some 14) (v := ?_) (a' := ?_) (bL 23 3) rfl rfl (any_of HT_.out (by kernel_rfl)) (fun _ _ _ h => h) (Or.inl ⟨by rfl, ?_⟩) ?_ ?_; rotate_left; (intro w'; go_simp; with_reducible rfl); rotate_left; (simp only [Act.put, List.setIfInBounds_toArray, List.set_cons_zero, List.set_cons_succ, i64_w, i32_w]; rfl)
              refine pure_ (i := 2) (N := some 15) (v := ?_) (a' := ?_) (bL 23 7) rfl rfl (any_of HT_.out (by kernel_rfl)) (fun _ _ _ h => h) (Or.inl ⟨by rfl, ?_⟩) ?_ ?_; rotate_left; (intro w'; go_simp; with_reducible rfl); rotate_left; (simp only [Act.put, List.setIfInBounds_toArray, List.set_cons_zero, List.set_cons_succ, i64_w, i32_w]; rfl)
              refine take_ (i := 3) (N := some 16) (v := ?_) (a' := ?_) (bL 23 15) rfl rfl (take_ofW HT_.out HW_.out (by kernel_rfl)) (fun _ _ _ h => h) (Or.inl ⟨by rfl, ?_⟩) hHeld ?_ ?_; rotate_left; (rintro w' ⟨s0, s1, s2, s3, s4, s5, s6, s7⟩; go_simp; with_reducible rfl); rotate_left; (simp only [Act.put, List.setIfInBounds_toArray, List.set_cons_zero, List.set_cons_succ, i64_w, i32_w]; rfl)
              refine one_ (i := 4) (N := some 17) (bL 23 31) rfl rfl (one_of HT_.out (by kernel_rfl)) (by decide) (fun K hK => ?_)
              refine goes_ Try.func76 (by kernel_rfl) rfl #[.agg #[.int .i64 ((rd_T52 l0 x3_1).f0), .int .i64 ((rd_T52 l0 x3_1).f1), .int .i64 ((rd_T52 l0 x3_1).f2), .int .i64 ((rd_T52 l0 x3_1).f3), .int .i64 ((rd_T52 l0 x3_1).f4), .slice A950_5 ((rd_T52 l0 x3_1).f5).length c950_5, .int .i64 ((rd_T52 l0 x3_1).f6), .bool ((rd_T52 l0 x3_1).f7)]] (by rfl) rfl rfl (by (try simp only [List.map_toArray, List.map_cons, List.map_nil]); first | done | rfl | (simp only [List.length_drop, List.length_take]; rfl)) ?_
              with_reducible refine (spec_RecordOk.calls k1 ((rd_T52 l0 x3_1).f0) ((rd_T52 l0 x3_1).f1) ((rd_T52 l0 x3_1).f2) ((rd_T52 l0 x3_1).f3) ((rd_T52 l0 x3_1).f4) _ _ ((rd_T52 l0 x3_1).f5) ((rd_T52 l0 x3_1).f6) ((rd_T52 l0 x3_1).f7) false _ ?side1 ?side2 A5.out).mono ?_
              (case side1 => repeat (first | exact (Kd.C_below HR950_5.out HB.out) | (with_reducible refine Kd.C_alloc ?_ _) | (with_reducible refine Kd.C_drewN ?_ _) | (with_reducible refine Kd.C_drew ?_)))
              (case side2 => exact HC950_5.out)
              rintro e w22 ⟨rfl, hb⟩
              refine ⟨_, rfl, ?_⟩
              have n0_ := Aside0.mk (below_step (by repeat (first | (with_reducible first | exact HB.out | apply below_alloc | apply pw_below_drewN | apply below_drew1) | exact HB.out)) hb)
              clear HB
              have HB := n0_
              clear n0_
              (try clear hb)
              (try clear hb2)
              (try clear hk)
              (try clear hi)
              refine hK.out _ _ ⟨((HB.out.cell (World.block_lt_of_cell? w _ hw950_0)).trans hw950_0), ((HB.out.cell (World.block_lt_of_cell? w _ hw950_1)).trans hw950_1), ((HB.out.cell (World.block_lt_of_cell? w _ hw950_2)).trans hw950_2), ((HB.out.cell (World.block_lt_of_cell? w _ hw950_3)).trans hw950_3), ((HB.out.cell (World.block_lt_of_cell? w _ hw950_4)).trans hw950_4), ((HB.out.cell (World.block_lt_of_cell? w _ hw950_5)).trans hw950_5), ((HB.out.cell (World.block_lt_of_cell? w _ hw950_6)).trans hw950_6), ((HB.out.cell (World.block_lt_of_cell? w _ hw950_7)).trans hw950_7)⟩ (fun hHeld => ?_)
              clear hK K
              refine norm_ (a' := ?_) ?_ ?_; rotate_left; (show Act.put _ (some 17) _ = _; simp only [Act.put, List.setIfInBounds_toArray, List.set_cons_zero, List.set_cons_succ, i64_w, i32_w]; rfl)
              refine pure_ (i := 5) (N := some 18) (v := ?_) (a' := ?_) (bL 23 63) rfl rfl (any_of HT_.out (by kernel_rfl)) (fun _ _ _ h => h) (Or.inl ⟨by rfl, ?_⟩) ?_ ?_; rotate_left; (intro w'; go_simp; with_reducible rfl); rotate_left; (simp only [Act.put, List.setIfInBounds_toArray, List.set_cons_zero, List.set_cons_succ, i64_w, i32_w]; rfl)
              refine pure_ (i := 6) (N := some 19) (v := ?_) (a' := ?_) (bL 23 127) rfl rfl (any_of HT_.out (by kernel_rfl)) (fun _ _ _ h => h) (Or.inl ⟨by rfl, ?_⟩) ?_ ?_; rotate_left; (intro w'; go_simp; with_reducible rfl); rotate_left; (simp only [Act.put, List.setIfInBounds_toArray, List.set_cons_zero, List.set_cons_succ, i64_w, i32_w]; rfl)
              refine pure_ (i := 7) (N := some 20) (v := undef) (a' := ?_) (bL 23 255) rfl rfl (any_of HT_.out (by kernel_rfl)) (fun _ _ _ h => h) (Or.inr ⟨by rfl, rfl⟩) ?_ ?_; rotate_left; (simp only [Act.put, List.setIfInBounds_toArray, List.set_cons_zero, List.set_cons_succ, i64_w, i32_w]; rfl)
              refine pure_ (i := 8) (N := some 21) (v := undef) (a' := ?_) (bL 23 511) rfl rfl (any_of HT_.out (by kernel_rfl)) (fun _ _ _ h => h) (Or.inr ⟨by rfl, rfl⟩) ?_ ?_; rotate_left; (simp only [Act.put, List.setIfInBounds_toArray, List.set_cons_zero, List.set_cons_succ, i64_w, i32_w]; rfl)
              refine pure_ (i := 9) (N := some 22) (v := undef) (a' := ?_) (bL 23 1023) rfl rfl (any_of HT_.out (by kernel_rfl)) (fun _ _ _ h => h) (Or.inr ⟨by rfl, rfl⟩) ?_ ?_; rotate_left; (simp only [Act.put, List.setIfInBounds_toArray, List.set_cons_zero, List.set_cons_succ, i64_w, i32_w]; rfl)
              refine pure_ (i := 10) (N := some 23) (v := undef) (a' := ?_) (bL 23 2047) rfl rfl (any_of HT_.out (by kernel_rfl)) (fun _ _ _ h => h) (Or.inr ⟨by rfl, rfl⟩) ?_ ?_; rotate_left; (simp only [Act.put, List.setIfInBounds_toArray, List.set_cons_zero, List.set_cons_succ, i64_w, i32_w]; rfl)
              refine pure_ (i := 11) (N := some 24) (v := undef) (a' := ?_) (bL 23 4095) rfl rfl (any_of HT_.out (by kernel_rfl)) (fun _ _ _ h => h) (Or.inr ⟨by rfl, rfl⟩) ?_ ?_; rotate_left; (simp only [Act.put, List.setIfInBounds_toArray, List.set_cons_zero, List.set_cons_succ, i64_w, i32_w]; rfl)
              refine pure_ (i := 12) (N := some 25) (v := undef) (a' := ?_) (bL 23 8191) rfl rfl (any_of HT_.out (by kernel_rfl)) (fun _ _ _ h => h) (Or.inr ⟨by rfl, rfl⟩) ?_ ?_; rotate_left; (simp only [Act.put, List.setIfInBounds_toArray, List.set_cons_zero, List.set_cons_succ, i64_w, i32_w]; rfl)
              refine pure_ (i := 13) (N := some 26) (v := undef) (a' := ?_) (bL 23 16383) rfl rfl (any_of HT_.out (by kernel_rfl)) (fun _ _ _ h => h) (Or.inr ⟨by rfl, rfl⟩) ?_ ?_; rotate_left; (simp only [Act.put, List.setIfInBounds_toArray, List.set_cons_zero, List.set_cons_succ, i64_w, i32_w]; rfl)
              refine pure_ (i := 14) (N := some 27) (v := undef) (a' := ?_) (bL 23 32767) rfl rfl (any_of HT_.out (by kernel_rfl)) (fun _ _ _ h => h) (Or.inr ⟨by rfl, rfl⟩) ?_ ?_; rotate_left; (simp only [Act.put, List.setIfInBounds_toArray, List.set_cons_zero, List.set_cons_succ, i64_w, i32_w]; rfl)
              refine pure_ (i := 15) (N := some 28) (v := undef) (a' := ?_) (bL 23 65535) rfl rfl (any_of HT_.out (by kernel_rfl)) (fun _ _ _ h => h) (Or.inr ⟨by rfl, rfl⟩) ?_ ?_; rotate_left; (simp only [Act.put, List.setIfInBounds_toArray, List.set_cons_zero, List.set_cons_succ, i64_w, i32_w]; rfl)
              refine pure_ (i := 16) (N := some 29) (v := undef) (a' := ?_) (bL 23 131071) rfl rfl (any_of HT_.out (by kernel_rfl)) (fun _ _ _ h => h) (Or.inr ⟨by rfl, rfl⟩) ?_ ?_; rotate_left; (simp only [Act.put, List.setIfInBounds_toArray, List.set_cons_zero, List.set_cons_succ, i64_w, i32_w]; rfl)
              refine pure_ (i := 17) (N := some 30) (v := undef) (a' := ?_) (bL 23 262143) rfl rfl (any_of HT_.out (by kernel_rfl)) (fun _ _ _ h => h) (Or.inr ⟨by rfl, rfl⟩) ?_ ?_; rotate_left; (simp only [Act.put, List.setIfInBounds_toArray, List.set_cons_zero, List.set_cons_succ, i64_w, i32_w]; rfl)
              refine pure_ (i := 18) (N := some 31) (v := undef) (a' := ?_) (bL 23 524287) rfl rfl (any_of HT_.out (by kernel_rfl)) (fun _ _ _ h => h) (Or.inr ⟨by rfl, rfl⟩) ?_ ?_; rotate_left; (simp only [Act.put, List.setIfInBounds_toArray, List.set_cons_zero, List.set_cons_succ, i64_w, i32_w]; rfl)
              refine pure_ (i := 19) (N := some 32) (v := undef) (a' := ?_) (bL 23 1048575) rfl rfl (any_of HT_.out (by kernel_rfl)) (fun _ _ _ h => h) (Or.inr ⟨by rfl, rfl⟩) ?_ ?_; rotate_left; (simp only [Act.put, List.setIfInBounds_toArray, List.set_cons_zero, List.set_cons_succ, i64_w, i32_w]; rfl)
              refine pure_ (i := 20) (N := some 33) (v := undef) (a' := ?_) (bL 23 2097151) rfl rfl (any_of HT_.out (by kernel_rfl)) (fun _ _ _ h => h) (Or.inr ⟨by rfl, rfl⟩) ?_ ?_; rotate_left; (simp only [Act.put, List.setIfInBounds_toArray, List.set_cons_zero, List.set_cons_succ, i64_w, i32_w]; rfl)
              refine pure_ (i := 21) (N := some 34) (v := undef) (a' := ?_) (bL 23 4194303) rfl rfl (any_of HT_.out (by kernel_rfl)) (fun _ _ _ h => h) (Or.inr ⟨by rfl, rfl⟩) ?_ ?_; rotate_left; (simp only [Act.put, List.setIfInBounds_toArray, List.set_cons_zero, List.set_cons_succ, i64_w, i32_w]; rfl)
              refine pure_ (i := 22) (N := some 35) (v := ?_) (a' := ?_) (bL 23 8388607) rfl rfl (any_of HT_.out (by kernel_rfl)) (fun _ _ _ h => h) (Or.inl ⟨by rfl, ?_⟩) ?_ ?_; rotate_left; (intro w'; go_simp; with_reducible rfl); rotate_left; (simp only [Act.put, List.setIfInBounds_toArray, List.set_cons_zero, List.set_cons_succ, i64_w, i32_w]; rfl)
              refine done_ (done_of HT_.out (by kernel_rfl)) ?_
              try go_wp2
              go_ret
              exact ⟨by first | rfl | (simp [errW_none, errW_some] <;> rfl) | (simp [*, errW_none, errW_some] <;> rfl), by repeat (first | (with_reducible first | exact HB.out | apply below_alloc | apply pw_below_drewN | apply below_drew1) | exact HB.out)⟩
          · rw [if_neg c4] at H
            exact absurd H (by simp)
        · rw [if_neg c3] at H
          have c3b0 : decide (x3_1 < (l0.length : Int)) = false := decide_eq_false c3
          clear c3
          obtain rfl := Option.some.inj H
          go_wp2
          go_ret
          exact ⟨by first | rfl | (simp [errW_none, errW_some] <;> rfl) | (simp [*, errW_none, errW_some] <;> rfl), by repeat (first | (with_reducible first | exact HB.out | apply below_alloc | apply pw_below_drewN | apply below_drew1) | exact HB.out)⟩

end Go.Proofs.Ytjkjhaiemephdab.Q
