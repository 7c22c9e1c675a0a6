/- A Go function as a Lean function, and its contract: for every input the Go code comes to what the Lean function tells. -/
import Derived.Test.YtjkjhaiemephdaaQk
namespace Go.Proofs.Ytjkjhaiemephdaa.Q
open Go.RowKit Go.Proofs.YtjkjhaiemephdaaW.PrintWords Go.Proofs.YtjkjhaiemephdaaW.PrintLast Go.Proofs.YtjkjhaiemephdaaW.PrintMore
attribute [local go_sem] max2_int min2_int max_two min_two max_three min_three max_four min_four   -- for this text's walks alone
set_option linter.unusedVariables false
set_option linter.unusedSimpArgs false

/-! ### spec_HopsTo: function 62 -/
def spec_HopsTo.l0 : Nat → List (S135) → Bool → Int → Int → Option (List Int)
  | 0, _, _, _, _ => none
  | k + 1, x0, x1, x2, x7 => if x7 < (x0.length : Int) then (if 0 ≤ x7 then (if (((rd_T135 x0 x7).f0) == x1) = true then (if ((rd_T135 x0 x7).f1) = x2 then ((some (([] : List Int) : List Int)).bind fun y1068 => (if y1068.length + ((rd_T135 x0 x7).f5).length < 17592186044416 then (some (y1068 ++ ((rd_T135 x0 x7).f5))) else (none))) else (spec_HopsTo.l0 k x0 x1 x2 (wrap64 (x7 + 1)))) else (spec_HopsTo.l0 k x0 x1 x2 (wrap64 (x7 + 1)))) else (none)) else (some (([] : List Int)))
def spec_HopsTo.f (k : Nat) (l0 : List (S135)) (a1 : Bool) (a2 : Int) : Option (List Int) := spec_HopsTo.l0 k l0 a1 a2 0
theorem spec_HopsTo.mono_l : ∀ k, (∀ y0 y1 y2 y3, LeO (spec_HopsTo.l0 k y0 y1 y2 y3) (spec_HopsTo.l0 (k + 1) y0 y1 y2 y3))
  | 0 => fun _ _ _ _ r h => by simp [spec_HopsTo.l0] at h
  | k + 1 => by
    have ih0 := spec_HopsTo.mono_l k
    · intro y0 y1 y2 y3
      unfold spec_HopsTo.l0
      repeat' first
      | (with_reducible exact ih0 _ _ _ _)
      | (with_reducible exact LeO.refl _)
      | (with_reducible exact LeO.none _)
      | (with_reducible refine LeO.ite ?_ ?_)
      | (with_reducible refine LeO.bind ?_ (fun _ => ?_))
      | exact ih0 _ _ _ _
      | exact LeO.none _
      | refine LeO.ite ?_ ?_
      | refine LeO.bind ?_ (fun _ => ?_)
theorem spec_HopsTo.mono : ∀ a0 a1 a2 k, LeO (spec_HopsTo.f k a0 a1 a2) (spec_HopsTo.f (k + 1) a0 a1 a2) := by
  intro a0 a1 a2 k
  have ih0 := spec_HopsTo.mono_l k
  unfold spec_HopsTo.f
  repeat' first
      | (with_reducible exact ih0 _ _ _ _)
      | (with_reducible exact LeO.refl _)
      | (with_reducible exact LeO.none _)
      | (with_reducible refine LeO.ite ?_ ?_)
      | (with_reducible refine LeO.bind ?_ (fun _ => ?_))
      | exact ih0 _ _ _ _
      | exact LeO.none _
      | refine LeO.ite ?_ ?_
      | refine LeO.bind ?_ (fun _ => ?_)
set_option maxHeartbeats 8000000 in
set_option maxRecDepth 100000 in
theorem spec_HopsTo.calls (k : Nat) (A0 : Option Addr) (c0 : Nat) (l0 : List (S135)) (a1 : Bool) (a2 : Int) (r : List Int) (w : World) (hr0 : Kd.C k135 w A0 l0.length l0) (hc0 : l0.length ≤ c0) (h : spec_HopsTo.f k l0 a1 a2 = some r) :
    Calls Try.prog 62 #[.slice A0 l0.length c0, .bool a1, .int .i64 a2] w fun e w' => ∃ v0_ : Value, e = .returned (v0_) ∧ Kd.R (Kd.int .i64) 3 w' w.heap.size (fun _ => True) v0_ r ∧ Below w.heap.size w w' := by
  have HR0 := Aside0.mk hr0
  have HC0 := Aside0.mk hc0
  clear hr0 hc0
  have HB := Aside0.mk (Below.refl w.heap.size w)
  have H : (spec_HopsTo.l0 k l0 a1 a2 0) = some r := h
  clear h
  have H' := Aside0.mk H
  clear H
  go_enter Try.func62, Try.ntmps62
  go_wp2
  go_loopg [7] k (fun kq v7 w' => ∃ (x7_1 : Int), v7 = .int .i64 x7_1 ∧ Aside0 (spec_HopsTo.l0 kq l0 a1 a2 x7_1 = some r) ∧ Aside0 (kq ≤ k) ∧ Aside0 (Below w.heap.size w w'))
  case atStart => exact ⟨(0), (by first | rfl | (simp; done) | (simp [*]; done)), H', ⟨Nat.le_refl _⟩, ⟨by repeat (first | (with_reducible first | exact HB.out | apply below_alloc | apply pw_below_drewN | apply below_drew1) | exact HB.out)⟩⟩
  case round =>
    clear H'
    try clear p2
    obtain ⟨x7_1, rfl, HA, HK1, HB⟩ := hrel
    cases gk with
    | zero => exact absurd HA.out (by simp [spec_HopsTo.l0])
    | succ k1 =>
      have H := HA.out
      clear HA
      simp only [spec_HopsTo.l0] at H
      by_cases c4 : x7_1 < (l0.length : Int)
      · rw [if_pos c4] at H
        have c4b0 : decide (x7_1 < (l0.length : Int)) = true := decide_eq_true c4
        clear c4
        by_cases c5 : 0 ≤ x7_1
        · rw [if_pos c5] at H
          have c5b0 : decide (0 ≤ x7_1) = true := decide_eq_true c5
          clear c5
          by_cases c6 : (((rd_T135 l0 x7_1).f0) == a1) = true
          · rw [if_pos c6] at H
            have c6b0 : (((rd_T135 l0 x7_1).f0) == a1) = true := c6
            (try (have c6b1 : decide (((rd_T135 l0 x7_1).f0) = a1) = true := by simpa using c6))
            (try (have c6b2 : (((rd_T135 l0 x7_1).f0) == a1) = true := by simpa using c6))
            clear c6
            by_cases c7 : ((rd_T135 l0 x7_1).f1) = a2
            · rw [if_pos c7] at H
              have c7b0 : (((rd_T135 l0 x7_1).f1) == a2) = true := beq_iff_eq.mpr c7
              have c7b1 : (((rd_T135 l0 x7_1).f1) != a2) = false := bne_eq_false_iff_eq.mpr c7
              clear c7
              obtain ⟨y1068, hy1068⟩ : ∃ y_ : List Int, y_ = (([] : List Int)) := ⟨_, rfl⟩
              replace H : (if y1068.length + ((rd_T135 l0 x7_1).f5).length < 17592186044416 then (some (y1068 ++ ((rd_T135 l0 x7_1).f5))) else (none)) = some r := by first | (rw [hy1068]; with_reducible exact H) | (have H2_ := (Option.bind_some _ _).symm.trans H; rw [hy1068]; with_reducible exact H2_) | (have H2_ := (Option.bind_some _ _).symm.trans H; with_reducible exact H2_) | with_reducible exact H | (rw [hy1068]; exact H) | exact H
              have Ny1068 := Aside0.mk hy1068
              clear hy1068
              by_cases c8 : y1068.length + ((rd_T135 l0 x7_1).f5).length < 17592186044416
              · rw [if_pos c8] at H
                have LMc8 := Aside0.mk c8
                clear c8
                obtain ⟨y1072, hy1072⟩ : ∃ y_ : List Int, y_ = (y1068 ++ ((rd_T135 l0 x7_1).f5)) := ⟨_, rfl⟩
                replace H : (some y1072) = some r := by first | (rw [hy1072]; with_reducible exact H) | (have H2_ := (Option.bind_some _ _).symm.trans H; rw [hy1072]; with_reducible exact H2_) | (have H2_ := (Option.bind_some _ _).symm.trans H; with_reducible exact H2_) | with_reducible exact H | (rw [hy1072]; exact H) | exact H
                have Ny1072 := Aside0.mk hy1072
                clear hy1072
                obtain rfl := Option.some.inj H
                have p1066 : 0 ≤ (x7_1 : Int) := of_decide_eq_true (by first | (with_reducible assumption) | assumption)
                have q1066 : x7_1 < (l0.length : Int) := of_decide_eq_true (by first | (with_reducible assumption) | assumption)
                obtain ⟨ad1066, A1066_5, c1066_5, e1066, hx1066_0, hx1066_1, hx1066_2, hx1066_3, hx1066_4, hx1066_5, hl1066_5, hi1066_5⟩ := at_T135 HR0.out x7_1 p1066 q1066
                cases e1066
                replace hx1066_0 := (HB.out.cell (World.block_lt_of_cell? w _ hx1066_0)).trans hx1066_0
                replace hx1066_1 := (HB.out.cell (World.block_lt_of_cell? w _ hx1066_1)).trans hx1066_1
                replace hx1066_2 := (HB.out.cell (World.block_lt_of_cell? w _ hx1066_2)).trans hx1066_2
                replace hx1066_3 := (HB.out.cell (World.block_lt_of_cell? w _ hx1066_3)).trans hx1066_3
                replace hx1066_4 := (HB.out.cell (World.block_lt_of_cell? w _ hx1066_4)).trans hx1066_4
                replace hx1066_5 := (HB.out.cell (World.block_lt_of_cell? w _ hx1066_5)).trans hx1066_5
                have HR1066_5 := Aside0.mk hi1066_5
                have HC1066_5 := Aside0.mk hl1066_5
                clear hi1066_5 hl1066_5
                replace p1066 := eq_true p1066
                replace q1066 := eq_true q1066
                have p1067 : 0 ≤ (x7_1 : Int) := of_decide_eq_true (by first | (with_reducible assumption) | assumption)
                have q1067 : x7_1 < (l0.length : Int) := of_decide_eq_true (by first | (with_reducible assumption) | assumption)
                obtain ⟨ad1067, A1067_5, c1067_5, e1067, hx1067_0, hx1067_1, hx1067_2, hx1067_3, hx1067_4, hx1067_5, hl1067_5, hi1067_5⟩ := at_T135 HR0.out x7_1 p1067 q1067
                obtain rfl : ad1066 = ad1067 := (by injection e1067)
                replace hx1067_0 := (HB.out.cell (World.block_lt_of_cell? w _ hx1067_0)).trans hx1067_0
                replace hx1067_1 := (HB.out.cell (World.block_lt_of_cell? w _ hx1067_1)).trans hx1067_1
                replace hx1067_2 := (HB.out.cell (World.block_lt_of_cell? w _ hx1067_2)).trans hx1067_2
                replace hx1067_3 := (HB.out.cell (World.block_lt_of_cell? w _ hx1067_3)).trans hx1067_3
                replace hx1067_4 := (HB.out.cell (World.block_lt_of_cell? w _ hx1067_4)).trans hx1067_4
                replace hx1067_5 := (HB.out.cell (World.block_lt_of_cell? w _ hx1067_5)).trans hx1067_5
                have HR1067_5 := Aside0.mk hi1067_5
                have HC1067_5 := Aside0.mk hl1067_5
                clear hi1067_5 hl1067_5
                replace p1067 := eq_true p1067
                replace q1067 := eq_true q1067
                have ea_ := Option.some.inj (hx1066_5.symm.trans hx1067_5)
                injection ea_ with ea_ en_ ec_
                subst ea_
                subst ec_
                clear en_
                go_wp2_with (first | ((with_reducible refine gate_dst (N := 30) rfl ?_); refine Kd.R_lit (Kd.int .i64) _ 3 ?hg (N := 30) ?hd (xs := ([] : List Int)) (inner := []) (ok := fun _ => True) (okp := fun _ => True) ?hr ?hp (fun _ hk => hk) trivial (Below.refl _ _) (Nat.le_refl _) (by simp) ?_; (case hd => rfl); (case hg => rfl); (case hr => first | (go_simp; done) | (go_simp; rfl)); (case hp => exact (Reps.none _ _)); intro v1069 w9 ho10 hb hg_ hnew_; clear hg_ hnew_; (first | rw [← Ny1068.out] at ho10 | (simp only [Int.reduceToNat] at ho10; rw [← Ny1068.out] at ho10)); have n0_ := Aside0.mk (Kd.R_lower ho10 (below_size (by repeat (first | (with_reducible first | exact HB.out | apply below_alloc | apply pw_below_drewN | apply below_drew1) | exact HB.out)))); have n1_ := Aside0.mk (below_step (by repeat (first | (with_reducible first | exact HB.out | apply below_alloc | apply pw_below_drewN | apply below_drew1) | exact HB.out)) hb); clear HB; have HO1070 := n0_; have HB := n1_; clear n0_ n1_; clear hb ho10; have p1071 : 0 ≤ (x7_1 : Int) := of_decide_eq_true (by first | (with_reducible assumption) | assumption); have q1071 : x7_1 < (l0.length : Int) := of_decide_eq_true (by first | (with_reducible assumption) | assumption); obtain ⟨ad1071, A1071_5, c1071_5, e1071, hx1071_0, hx1071_1, hx1071_2, hx1071_3, hx1071_4, hx1071_5, hl1071_5, hi1071_5⟩ := at_T135 HR0.out x7_1 p1071 q1071; obtain rfl : ad1066 = ad1071 := (by injection e1071); replace hx1071_0 := (HB.out.cell (World.block_lt_of_cell? w _ hx1071_0)).trans hx1071_0; replace hx1071_1 := (HB.out.cell (World.block_lt_of_cell? w _ hx1071_1)).trans hx1071_1; replace hx1071_2 := (HB.out.cell (World.block_lt_of_cell? w _ hx1071_2)).trans hx1071_2; replace hx1071_3 := (HB.out.cell (World.block_lt_of_cell? w _ hx1071_3)).trans hx1071_3; replace hx1071_4 := (HB.out.cell (World.block_lt_of_cell? w _ hx1071_4)).trans hx1071_4; replace hx1071_5 := (HB.out.cell (World.block_lt_of_cell? w _ hx1071_5)).trans hx1071_5; have HR1071_5 := Aside0.mk hi1071_5; have HC1071_5 := Aside0.mk hl1071_5; clear hi1071_5 hl1071_5; replace p1071 := eq_true p1071; replace q1071 := eq_true q1071) | ((with_reducible refine gate_builtin (b := .append) (xs := #[.tmp 30, .tmp 35]) rfl ?_); at_builtin; refine Kd.R_append_rows (Kd.int .i64) (w0 := w) w.heap.size rfl (.tmp 30) (.tmp 35) 22 3 (.int .i64 0) 8 rfl Try.underlying22 info3 rfl (by decide) (by omega) v1069 y1068 ((rd_T135 l0 x7_1).f5) _ _ _ (fun _ => True) (fun _ => False) rfl rfl ?aO ?aR (fun _ _ h => h) (fun _ h => h.elim) ?aF ?aB ?aS ?aL ?_; (case aR => repeat (first | exact (Kd.C_below HR1071_5.out HB.out) | (with_reducible refine Kd.C_alloc ?_ _) | (with_reducible refine Kd.C_drewN ?_ _) | (with_reducible refine Kd.C_drew ?_))); (case aB => exact (by repeat (first | (with_reducible first | exact HB.out | apply below_alloc | apply pw_below_drewN | apply below_drew1) | exact HB.out))); (case aF => exact (fun _ _ => trivial)); (case aO => exact (by (with_reducible repeat (first | apply Kd.R_alloc | apply Kd.R_drewN | apply Kd.R_drew)); exact HO1070.out)); (case aS => exact (below_size (by repeat (first | (with_reducible first | exact HB.out | apply below_alloc | apply pw_below_drewN | apply below_drew1) | exact HB.out)))); (case aL => have := LMc8.out; omega); intro v1073 w11 ho hb hg hat; rw [← Ny1072.out] at ho; have n0_ := Aside0.mk (hb); have n1_ := Aside0.mk (ho); clear HB; clear HO1070; have HB := n0_; have HO1074 := n1_; clear n0_ n1_; clear ho hb hg hat))
                go_ret
                exact ⟨_, by first | rfl | (simp [errW_none, errW_some] <;> rfl) | (simp [*, errW_none, errW_some] <;> rfl), by (with_reducible repeat (first | apply Kd.R_alloc | apply Kd.R_drewN | apply Kd.R_drew)); exact HO1074.out, by repeat (first | (with_reducible first | exact HB.out | apply below_alloc | apply pw_below_drewN | apply below_drew1) | exact HB.out)⟩
              · rw [if_neg c8] at H
                exact absurd H (by simp)
            · rw [if_neg c7] at H
              have c7b0 : (((rd_T135 l0 x7_1).f1) == a2) = false := beq_eq_false_iff_ne.mpr c7
              have c7b1 : (((rd_T135 l0 x7_1).f1) != a2) = true := bne_iff_ne.mpr c7
              have H' := Aside0.mk H
              clear H
              have p1066 : 0 ≤ (x7_1 : Int) := of_decide_eq_true (by first | (with_reducible assumption) | assumption)
              have q1066 : x7_1 < (l0.length : Int) := of_decide_eq_true (by first | (with_reducible assumption) | assumption)
              obtain ⟨ad1066, A1066_5, c1066_5, e1066, hx1066_0, hx1066_1, hx1066_2, hx1066_3, hx1066_4, hx1066_5, hl1066_5, hi1066_5⟩ := at_T135 HR0.out x7_1 p1066 q1066
              cases e1066
              replace hx1066_0 := (HB.out.cell (World.block_lt_of_cell? w _ hx1066_0)).trans hx1066_0
              replace hx1066_1 := (HB.out.cell (World.block_lt_of_cell? w _ hx1066_1)).trans hx1066_1
              replace hx1066_2 := (HB.out.cell (World.block_lt_of_cell? w _ hx1066_2)).trans hx1066_2
              replace hx1066_3 := (HB.out.cell (World.block_lt_of_cell? w _ hx1066_3)).trans hx1066_3
              replace hx1066_4 := (HB.out.cell (World.block_lt_of_cell? w _ hx1066_4)).trans hx1066_4
              replace hx1066_5 := (HB.out.cell (World.block_lt_of_cell? w _ hx1066_5)).trans hx1066_5
              have HR1066_5 := Aside0.mk hi1066_5
              have HC1066_5 := Aside0.mk hl1066_5
              clear hi1066_5 hl1066_5
              replace p1066 := eq_true p1066
              replace q1066 := eq_true q1066
              have p1067 : 0 ≤ (x7_1 : Int) := of_decide_eq_true (by first | (with_reducible assumption) | assumption)
              have q1067 : x7_1 < (l0.length : Int) := of_decide_eq_true (by first | (with_reducible assumption) | assumption)
              obtain ⟨ad1067, A1067_5, c1067_5, e1067, hx1067_0, hx1067_1, hx1067_2, hx1067_3, hx1067_4, hx1067_5, hl1067_5, hi1067_5⟩ := at_T135 HR0.out x7_1 p1067 q1067
              obtain rfl : ad1066 = ad1067 := (by injection e1067)
              replace hx1067_0 := (HB.out.cell (World.block_lt_of_cell? w _ hx1067_0)).trans hx1067_0
              replace hx1067_1 := (HB.out.cell (World.block_lt_of_cell? w _ hx1067_1)).trans hx1067_1
              replace hx1067_2 := (HB.out.cell (World.block_lt_of_cell? w _ hx1067_2)).trans hx1067_2
              replace hx1067_3 := (HB.out.cell (World.block_lt_of_cell? w _ hx1067_3)).trans hx1067_3
              replace hx1067_4 := (HB.out.cell (World.block_lt_of_cell? w _ hx1067_4)).trans hx1067_4
              replace hx1067_5 := (HB.out.cell (World.block_lt_of_cell? w _ hx1067_5)).trans hx1067_5
              have HR1067_5 := Aside0.mk hi1067_5
              have HC1067_5 := Aside0.mk hl1067_5
              clear hi1067_5 hl1067_5
              replace p1067 := eq_true p1067
              replace q1067 := eq_true q1067
              have ea_ := Option.some.inj (hx1066_5.symm.trans hx1067_5)
              injection ea_ with ea_ en_ ec_
              subst ea_
              subst ec_
              clear en_
              go_wp2
              go_roundg k1
              case measure => have := HK1.out; omega
              case rel => exact ⟨(wrap64 (x7_1 + 1)), (by first | rfl | (simp; done) | (simp [*]; done)), H', ⟨by have := HK1.out; omega⟩, ⟨by repeat (first | (with_reducible first | exact HB.out | apply below_alloc | apply pw_below_drewN | apply below_drew1) | exact HB.out)⟩⟩
          · rw [if_neg c6] at H
            have c6b0 : (((rd_T135 l0 x7_1).f0) == a1) = false := by simpa using c6
            (try (have c6b1 : decide (((rd_T135 l0 x7_1).f0) = a1) = false := by simpa using c6))
            (try (have c6b2 : (((rd_T135 l0 x7_1).f0) == a1) = false := by simpa using c6))
            (try (have c6b3 : ¬ (((rd_T135 l0 x7_1).f0) = a1) := by simpa using c6))
            clear c6
            have H' := Aside0.mk H
            clear H
            have p1066 : 0 ≤ (x7_1 : Int) := of_decide_eq_true (by first | (with_reducible assumption) | assumption)
            have q1066 : x7_1 < (l0.length : Int) := of_decide_eq_true (by first | (with_reducible assumption) | assumption)
            obtain ⟨ad1066, A1066_5, c1066_5, e1066, hx1066_0, hx1066_1, hx1066_2, hx1066_3, hx1066_4, hx1066_5, hl1066_5, hi1066_5⟩ := at_T135 HR0.out x7_1 p1066 q1066
            cases e1066
            replace hx1066_0 := (HB.out.cell (World.block_lt_of_cell? w _ hx1066_0)).trans hx1066_0
            replace hx1066_1 := (HB.out.cell (World.block_lt_of_cell? w _ hx1066_1)).trans hx1066_1
            replace hx1066_2 := (HB.out.cell (World.block_lt_of_cell? w _ hx1066_2)).trans hx1066_2
            replace hx1066_3 := (HB.out.cell (World.block_lt_of_cell? w _ hx1066_3)).trans hx1066_3
            replace hx1066_4 := (HB.out.cell (World.block_lt_of_cell? w _ hx1066_4)).trans hx1066_4
            replace hx1066_5 := (HB.out.cell (World.block_lt_of_cell? w _ hx1066_5)).trans hx1066_5
            have HR1066_5 := Aside0.mk hi1066_5
            have HC1066_5 := Aside0.mk hl1066_5
            clear hi1066_5 hl1066_5
            replace p1066 := eq_true p1066
            replace q1066 := eq_true q1066
            go_wp2
            go_roundg k1
            case measure => have := HK1.out; omega
            case rel => exact ⟨(wrap64 (x7_1 + 1)), (by first | rfl | (simp; done) | (simp [*]; done)), H', ⟨by have := HK1.out; omega⟩, ⟨by repeat (first | (with_reducible first | exact HB.out | apply below_alloc | apply pw_below_drewN | apply below_drew1) | exact HB.out)⟩⟩
        · rw [if_neg c5] at H
          exact absurd H (by simp)
      · rw [if_neg c4] at H
        have c4b0 : decide (x7_1 < (l0.length : Int)) = false := decide_eq_false c4
        clear c4
        obtain ⟨y1075, hy1075⟩ : ∃ y_ : List Int, y_ = (([] : List Int)) := ⟨_, rfl⟩
        replace H : (some y1075) = some r := by first | (rw [hy1075]; with_reducible exact H) | (have H2_ := (Option.bind_some _ _).symm.trans H; rw [hy1075]; with_reducible exact H2_) | (have H2_ := (Option.bind_some _ _).symm.trans H; with_reducible exact H2_) | with_reducible exact H | (rw [hy1075]; exact H) | exact H
        have Ny1075 := Aside0.mk hy1075
        clear hy1075
        obtain rfl := Option.some.inj H
        go_wp2_with (first | ((with_reducible refine gate_dst (N := 37) rfl ?_); refine Kd.R_lit (Kd.int .i64) _ 3 ?hg (N := 37) ?hd (xs := ([] : List Int)) (inner := []) (ok := fun _ => True) (okp := fun _ => True) ?hr ?hp (fun _ hk => hk) trivial (Below.refl _ _) (Nat.le_refl _) (by simp) ?_; (case hd => rfl); (case hg => rfl); (case hr => first | (go_simp; done) | (go_simp; rfl)); (case hp => exact (Reps.none _ _)); intro v1076 w12 ho13 hb hg_ hnew_; clear hg_ hnew_; (first | rw [← Ny1075.out] at ho13 | (simp only [Int.reduceToNat] at ho13; rw [← Ny1075.out] at ho13)); have n0_ := Aside0.mk (Kd.R_lower ho13 (below_size (by repeat (first | (with_reducible first | exact HB.out | apply below_alloc | apply pw_below_drewN | apply below_drew1) | exact HB.out)))); have n1_ := Aside0.mk (below_step (by repeat (first | (with_reducible first | exact HB.out | apply below_alloc | apply pw_below_drewN | apply below_drew1) | exact HB.out)) hb); clear HB; have HO1077 := n0_; have HB := n1_; clear n0_ n1_; clear hb ho13))
        go_ret
        exact ⟨_, by first | rfl | (simp [errW_none, errW_some] <;> rfl) | (simp [*, errW_none, errW_some] <;> rfl), by (with_reducible repeat (first | apply Kd.R_alloc | apply Kd.R_drewN | apply Kd.R_drew)); exact HO1077.out, by repeat (first | (with_reducible first | exact HB.out | apply below_alloc | apply pw_below_drewN | apply below_drew1) | exact HB.out)⟩

end Go.Proofs.Ytjkjhaiemephdaa.Q
