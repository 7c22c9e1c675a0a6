/- A Go function as a Lean function, and its contract: for every input the Go code comes to what the Lean function tells. -/
import Derived.Test.YthjmdiggglkeaaaQk
import Derived.Test.YthjmdiggglkeaaaQspecl04Copy
namespace Go.Proofs.Ythjmdiggglkeaaa.Q
open Go.RowKit Go.Proofs.YthjmdiggglkeaaaW.PrintWords Go.Proofs.YthjmdiggglkeaaaW.PrintLast Go.Proofs.YthjmdiggglkeaaaW.PrintMore
attribute [local go_sem] max2_int min2_int max_two min_two max_three min_three max_four min_four   -- for this text's walks alone
set_option linter.unusedVariables false
set_option linter.unusedSimpArgs false

/-! ### spec_Scope: function 57 -/
def spec_Scope.l0 : Nat → List (S61) → Int → List (S61) → Int → Option ((List (S61)))
  | 0, _, _, _, _ => none
  | k + 1, x0, x1, x5, x6 => if x6 < (x0.length : Int) then (if 0 ≤ x6 then (if ((rd_T61 x0 x6).f0) = x1 then ((spec_l04Copy.f ((rd_T61 x0 x6).f0) ((rd_T61 x0 x6).f1) ((rd_T61 x0 x6).f2) ((rd_T61 x0 x6).f3) ((rd_T61 x0 x6).f4) ((rd_T61 x0 x6).f5) ((rd_T61 x0 x6).f6) ((rd_T61 x0 x6).f7)).bind fun bt1104 => (if x5.length < 1759218604441 then (spec_Scope.l0 k x0 x1 (x5 ++ [(⟨bt1104.1, bt1104.2.1, bt1104.2.2.1, bt1104.2.2.2.1, bt1104.2.2.2.2.1, bt1104.2.2.2.2.2.1, bt1104.2.2.2.2.2.2.1, bt1104.2.2.2.2.2.2.2⟩ : S61)]) (wrap64 (x6 + 1))) else (none))) else (if ((rd_T61 x0 x6).f0) = 9 then ((spec_l04Copy.f ((rd_T61 x0 x6).f0) ((rd_T61 x0 x6).f1) ((rd_T61 x0 x6).f2) ((rd_T61 x0 x6).f3) ((rd_T61 x0 x6).f4) ((rd_T61 x0 x6).f5) ((rd_T61 x0 x6).f6) ((rd_T61 x0 x6).f7)).bind fun bt1119 => (if x5.length < 1759218604441 then (spec_Scope.l0 k x0 x1 (x5 ++ [(⟨bt1119.1, bt1119.2.1, bt1119.2.2.1, bt1119.2.2.2.1, bt1119.2.2.2.2.1, bt1119.2.2.2.2.2.1, bt1119.2.2.2.2.2.2.1, bt1119.2.2.2.2.2.2.2⟩ : S61)]) (wrap64 (x6 + 1))) else (none))) else (spec_Scope.l0 k x0 x1 x5 (wrap64 (x6 + 1))))) else (none)) else (some x5)
def spec_Scope.f (k : Nat) (l0 : List (S61)) (a1 : Int) : Option ((List (S61))) := spec_Scope.l0 k l0 a1 (([] : List (S61))) 0
theorem spec_Scope.mono_l : ∀ k, (∀ y0 y1 y2 y3, LeO (spec_Scope.l0 k y0 y1 y2 y3) (spec_Scope.l0 (k + 1) y0 y1 y2 y3))
  | 0 => fun _ _ _ _ r h => by simp [spec_Scope.l0] at h
  | k + 1 => by
    have ih0 := spec_Scope.mono_l k
    · intro y0 y1 y2 y3
      unfold spec_Scope.l0
      repeat' first
      | (with_reducible exact ih0 _ _ _ _)
      | (with_reducible exact LeO.refl _)
      | (with_reducible exact LeO.none _)
      | (with_reducible refine LeO.ite ?_ ?_)
      | (with_reducible refine LeO.bind ?_ (fun _ => ?_))
      | exact ih0 _ _ _ _
      | exact LeO.none _
      | refine LeO.ite ?_ ?_
      | refine LeO.bind ?_ (fun _ => ?_)
theorem spec_Scope.mono : ∀ a0 a1 k, LeO (spec_Scope.f k a0 a1) (spec_Scope.f (k + 1) a0 a1) := by
  intro a0 a1 k
  have ih0 := spec_Scope.mono_l k
  unfold spec_Scope.f
  repeat' first
      | (with_reducible exact ih0 _ _ _ _)
      | (with_reducible exact LeO.refl _)
      | (with_reducible exact LeO.none _)
      | (with_reducible refine LeO.ite ?_ ?_)
      | (with_reducible refine LeO.bind ?_ (fun _ => ?_))
      | exact ih0 _ _ _ _
      | exact LeO.none _
      | refine LeO.ite ?_ ?_
      | refine LeO.bind ?_ (fun _ => ?_)
set_option maxHeartbeats 8000000 in
set_option maxRecDepth 100000 in
theorem spec_Scope.calls (k : Nat) (A0 : Option Addr) (c0 : Nat) (l0 : List (S61)) (a1 : Int) (r : List (S61)) (w : World) (hr0 : Kd.C k61 w A0 l0.length l0) (hc0 : l0.length ≤ c0) (h : spec_Scope.f k l0 a1 = some r) :
    Calls Try.prog 57 #[.slice A0 l0.length c0, .int .i64 a1] w fun e w' => ∃ v0_ : Value, e = .returned (v0_) ∧ Kd.S k61 61 w' w.heap.size (fun _ => True) v0_ r ∧ Below w.heap.size w w' := by
  have hu61 := Try.underlying61
  have HR0 := Aside0.mk hr0
  have HC0 := Aside0.mk hc0
  clear hr0 hc0
  have HB := Aside0.mk (Below.refl w.heap.size w)
  have H : (spec_Scope.l0 k l0 a1 (([] : List (S61))) 0) = some r := h
  clear h
  obtain ⟨y1099, hy1099⟩ : ∃ y_ : List (S61), y_ = (([] : List (S61))) := ⟨_, rfl⟩
  replace H : (spec_Scope.l0 k l0 a1 y1099 0) = some r := by first | (rw [hy1099]; with_reducible exact H) | (have H2_ := (Option.bind_some _ _).symm.trans H; rw [hy1099]; with_reducible exact H2_) | (have H2_ := (Option.bind_some _ _).symm.trans H; with_reducible exact H2_) | with_reducible exact H | (rw [hy1099]; exact H) | exact H
  have Ny1099 := Aside0.mk hy1099
  clear hy1099
  have H' := Aside0.mk H
  clear H
  go_enter Try.func57, Try.ntmps57
  go_wp2_with (first | ((with_reducible refine gate_dst (N := 7) rfl ?_); refine Kd.S_lit k61 _ 61 ?hg (N := 7) ?hd (xs := ([] : List (S61))) (inner := []) (ok := fun _ => True) (okp := fun _ => True) ?hr ?hp (fun _ hk => hk) trivial (Below.refl _ _) (Nat.le_refl _) (by simp) ?_; (case hd => rfl); (case hg => rfl); (case hr => first | (go_simp; done) | (go_simp; rfl)); (case hp => exact (Reps.none _ _)); intro v1100 w3 ho4 hb hg_ hnew_; clear hg_ hnew_; (first | rw [← Ny1099.out] at ho4 | (simp only [Int.reduceToNat] at ho4; rw [← Ny1099.out] at ho4)); have n0_ := Aside0.mk (Kd.S_lower ho4 (below_size (by repeat (first | (with_reducible first | exact HB.out | apply below_alloc | apply pw_below_drewN | apply below_drew1) | exact HB.out)))); have n1_ := Aside0.mk (below_step (by repeat (first | (with_reducible first | exact HB.out | apply below_alloc | apply pw_below_drewN | apply below_drew1) | exact HB.out)) hb); clear HB; have HO1101 := n0_; have HB := n1_; clear n0_ n1_; clear hb ho4))
  go_loopg [5, 6] k (fun kq v5 v6 w' => ∃ (x5_1 : List (S61)) (x6_1 : Int), v6 = .int .i64 x6_1 ∧ Aside0 (spec_Scope.l0 kq l0 a1 x5_1 x6_1 = some r) ∧ Aside0 (kq ≤ k) ∧ Aside0 (Kd.S k61 61 w' w.heap.size (fun _ => True) v5 x5_1) ∧ Aside0 (Below w.heap.size w w'))
  case atStart => exact ⟨(y1099), (0), (by first | rfl | (simp; done) | (simp [*]; done)), H', ⟨Nat.le_refl _⟩, ⟨by (with_reducible repeat (first | apply Kd.S_alloc | apply Kd.S_drewN | apply Kd.S_drew)); exact HO1101.out⟩, ⟨by repeat (first | (with_reducible first | exact HB.out | apply below_alloc | apply pw_below_drewN | apply below_drew1) | exact HB.out)⟩⟩
  case round =>
    clear H'
    try clear p2
    obtain ⟨x5_1, x6_1, rfl, HA, HK1, HO_5, HB⟩ := hrel
    cases gk with
    | zero => exact absurd HA.out (by simp [spec_Scope.l0])
    | succ k1 =>
      have H := HA.out
      clear HA
      simp only [spec_Scope.l0] at H
      by_cases c5 : x6_1 < (l0.length : Int)
      · rw [if_pos c5] at H
        have c5b0 : decide (x6_1 < (l0.length : Int)) = true := decide_eq_true c5
        clear c5
        by_cases c6 : 0 ≤ x6_1
        · rw [if_pos c6] at H
          have c6b0 : decide (0 ≤ x6_1) = true := decide_eq_true c6
          clear c6
          by_cases c7 : ((rd_T61 l0 x6_1).f0) = a1
          · rw [if_pos c7] at H
            have c7b0 : (((rd_T61 l0 x6_1).f0) == a1) = true := beq_iff_eq.mpr c7
            have c7b1 : (((rd_T61 l0 x6_1).f0) != a1) = false := bne_eq_false_iff_eq.mpr c7
            clear c7
            have HC8 := Aside0.mk H
            clear H
            have p1102 : 0 ≤ (x6_1 : Int) := of_decide_eq_true (by first | (with_reducible assumption) | assumption)
            have q1102 : x6_1 < (l0.length : Int) := of_decide_eq_true (by first | (with_reducible assumption) | assumption)
            obtain ⟨ad1102, A1102_5, c1102_5, e1102, hx1102_0, hx1102_1, hx1102_2, hx1102_3, hx1102_4, hx1102_5, hx1102_6, hx1102_7, hl1102_5, hi1102_5⟩ := at_T61 HR0.out x6_1 p1102 q1102
            cases e1102
            replace hx1102_0 := (HB.out.cell (World.block_lt_of_cell? w _ hx1102_0)).trans hx1102_0
            replace hx1102_1 := (HB.out.cell (World.block_lt_of_cell? w _ hx1102_1)).trans hx1102_1
            replace hx1102_2 := (HB.out.cell (World.block_lt_of_cell? w _ hx1102_2)).trans hx1102_2
            replace hx1102_3 := (HB.out.cell (World.block_lt_of_cell? w _ hx1102_3)).trans hx1102_3
            replace hx1102_4 := (HB.out.cell (World.block_lt_of_cell? w _ hx1102_4)).trans hx1102_4
            replace hx1102_5 := (HB.out.cell (World.block_lt_of_cell? w _ hx1102_5)).trans hx1102_5
            replace hx1102_6 := (HB.out.cell (World.block_lt_of_cell? w _ hx1102_6)).trans hx1102_6
            replace hx1102_7 := (HB.out.cell (World.block_lt_of_cell? w _ hx1102_7)).trans hx1102_7
            have HR1102_5 := Aside0.mk hi1102_5
            have HC1102_5 := Aside0.mk hl1102_5
            clear hi1102_5 hl1102_5
            replace p1102 := eq_true p1102
            replace q1102 := eq_true q1102
            go_upto_if 28 with (fail)
            (try clear hx1102_0); (try clear hx1102_1); (try clear hx1102_2); (try clear hx1102_3); (try clear hx1102_4); (try clear hx1102_5); (try clear hx1102_6); (try clear hx1102_7)
            have H := HC8.out
            clear HC8
            replace H := Option.bind_eq_some_iff.mp H
            obtain ⟨⟨t1104, t1105, t1106, t1107, t1108, t1109, t1112, t1113⟩, A90, H⟩ := H
            replace H : (if x5_1.length < 1759218604441 then (spec_Scope.l0 k1 l0 a1 (x5_1 ++ [(⟨t1104, t1105, t1106, t1107, t1108, t1109, t1112, t1113⟩ : S61)]) (wrap64 (x6_1 + 1))) else (none)) = some r := H
            have A9 := Aside0.mk A90
            clear A90
            by_cases c10 : x5_1.length < 1759218604441
            · rw [if_pos c10] at H
              have LMc10 := Aside0.mk c10
              clear c10
              obtain ⟨y1114, hy1114⟩ : ∃ y_ : List (S61), y_ = (x5_1 ++ [(⟨t1104, t1105, t1106, t1107, t1108, t1109, t1112, t1113⟩ : S61)]) := ⟨_, rfl⟩
              replace H : (spec_Scope.l0 k1 l0 a1 y1114 (wrap64 (x6_1 + 1))) = some r := by first | (rw [hy1114]; with_reducible exact H) | (have H2_ := (Option.bind_some _ _).symm.trans H; rw [hy1114]; with_reducible exact H2_) | (have H2_ := (Option.bind_some _ _).symm.trans H; with_reducible exact H2_) | with_reducible exact H | (rw [hy1114]; exact H) | exact H
              have Ny1114 := Aside0.mk hy1114
              clear hy1114
              have H' := Aside0.mk H
              clear H
              have p1103 : 0 ≤ (x6_1 : Int) := of_decide_eq_true (by first | (with_reducible assumption) | assumption)
              have q1103 : x6_1 < (l0.length : Int) := of_decide_eq_true (by first | (with_reducible assumption) | assumption)
              obtain ⟨ad1103, A1103_5, c1103_5, e1103, hx1103_0, hx1103_1, hx1103_2, hx1103_3, hx1103_4, hx1103_5, hx1103_6, hx1103_7, hl1103_5, hi1103_5⟩ := at_T61 HR0.out x6_1 p1103 q1103
              obtain rfl : ad1102 = ad1103 := (by injection e1103)
              replace hx1103_0 := (HB.out.cell (World.block_lt_of_cell? w _ hx1103_0)).trans hx1103_0
              replace hx1103_1 := (HB.out.cell (World.block_lt_of_cell? w _ hx1103_1)).trans hx1103_1
              replace hx1103_2 := (HB.out.cell (World.block_lt_of_cell? w _ hx1103_2)).trans hx1103_2
              replace hx1103_3 := (HB.out.cell (World.block_lt_of_cell? w _ hx1103_3)).trans hx1103_3
              replace hx1103_4 := (HB.out.cell (World.block_lt_of_cell? w _ hx1103_4)).trans hx1103_4
              replace hx1103_5 := (HB.out.cell (World.block_lt_of_cell? w _ hx1103_5)).trans hx1103_5
              replace hx1103_6 := (HB.out.cell (World.block_lt_of_cell? w _ hx1103_6)).trans hx1103_6
              replace hx1103_7 := (HB.out.cell (World.block_lt_of_cell? w _ hx1103_7)).trans hx1103_7
              have HR1103_5 := Aside0.mk hi1103_5
              have HC1103_5 := Aside0.mk hl1103_5
              clear hi1103_5 hl1103_5
              replace p1103 := eq_true p1103
              replace q1103 := eq_true q1103
              go_wp2_with (first | ((with_reducible refine gate_callee (f := 94) rfl ?_); refine goesL_ (some 34) rfl rfl Try.func94 (by kernel_rfl) rfl #[.agg #[.int .i64 ((rd_T61 l0 x6_1).f0), .int .i64 ((rd_T61 l0 x6_1).f1), .int .i64 ((rd_T61 l0 x6_1).f2), .int .i64 ((rd_T61 l0 x6_1).f3), .int .i64 ((rd_T61 l0 x6_1).f4), .slice A1103_5 ((rd_T61 l0 x6_1).f5).length c1103_5, .int .i64 ((rd_T61 l0 x6_1).f6), .bool ((rd_T61 l0 x6_1).f7)]] rfl (by (try simp only [List.map_toArray, List.map_cons, List.map_nil]); first | done | rfl | (simp only [List.length_drop, List.length_take]; rfl)) ?_; (with_reducible refine (spec_l04Copy.calls ((rd_T61 l0 x6_1).f0) ((rd_T61 l0 x6_1).f1) ((rd_T61 l0 x6_1).f2) ((rd_T61 l0 x6_1).f3) ((rd_T61 l0 x6_1).f4) _ _ ((rd_T61 l0 x6_1).f5) ((rd_T61 l0 x6_1).f6) ((rd_T61 l0 x6_1).f7) t1104 t1105 t1106 t1107 t1108 t1109 t1112 t1113 _ ?side1 ?side2 A9.out).mono ?_); (case side1 => repeat (first | exact (Kd.C_below HR1103_5.out HB.out) | (with_reducible refine Kd.C_alloc ?_ _) | (with_reducible refine Kd.C_drewN ?_ _) | (with_reducible refine Kd.C_drew ?_))); (case side2 => exact HC1103_5.out); rintro e w11 ⟨v1110, rfl, ho0, hb⟩; refine ⟨_, rfl, ?_⟩; have hs_v1110 : (v1110 : Value).oneCell' = true := (by first | (obtain ⟨A_, c_, e_⟩ := Kd.R_slice ho0; simp [e_, Value.oneCell']) | (obtain ⟨A_, c_, e_⟩ := Kd.S_slice ho0; simp [e_, Value.oneCell']) | (obtain ⟨A_, c_, e_⟩ := Kd.N_slice ho0; simp [e_, Value.oneCell']) | (obtain ⟨A_, c_, e_⟩ := Kd.V_slice ho0; simp [e_, Value.oneCell'])); have hst_v1110 := fun (w_ : World) (a_ : Addr) m_ => run_store Try.prog w_ a_ v1110 m_ hs_v1110; have n0_ := Aside0.mk (Kd.S_elder' (by (with_reducible repeat (first | apply Kd.S_alloc | apply Kd.S_drewN | apply Kd.S_drew)); exact HO_5.out) (Kd.R_base ho0) hb); have n1_ := Aside0.mk (Kd.R_lower ho0 (below_size (by repeat (first | (with_reducible first | exact HB.out | apply below_alloc | apply pw_below_drewN | apply below_drew1) | exact HB.out)))); have n2_ := Aside0.mk (below_step (by repeat (first | (with_reducible first | exact HB.out | apply below_alloc | apply pw_below_drewN | apply below_drew1) | exact HB.out)) hb); clear HO_5; clear HB; have HO_5 := n0_; have HO1111 := n1_; have HB := n2_; clear n0_ n1_ n2_; (try clear hb); (try clear hb2); (try clear hk); (try clear hi); (try clear ho0); obtain ⟨Ao13, co13, eo13⟩ := Kd.R_slice HO1111.out; subst eo13) | ((with_reducible refine gate_builtin (b := .append) (xs := #[.tmp 29, .tmp 35]) rfl ?_); at_builtin; refine Kd.S_append k61 (w0 := w) w.heap.size rfl (.tmp 29) (.tmp 35) 41 61 (.agg #[(.int .i64 0), (.int .i64 0), (.int .i64 0), (.int .i64 0), (.int .i64 0), (.slice none 0 0), (.int .i64 0), (.bool false)]) 80 rfl Try.underlying41 info61 rfl (by decide) (by omega) u5 x5_1 (⟨t1104, t1105, t1106, t1107, t1108, t1109, t1112, t1113⟩ : S61) [.int .i64 t1104, .int .i64 t1105, .int .i64 t1106, .int .i64 t1107, .int .i64 t1108, .slice Ao13 t1109.length co13, .int .i64 t1112, .bool t1113] (fun _ => True) (fun k_ => some k_ = (.slice Ao13 t1109.length co13 : Value).ownBlock) rfl rfl ?aP (fun k_ hk_ => ((Kd.R_mono (ok' := fun k_ => ((fun _ => True)) k_ ∧ some k_ ≠ (u5 : Value).ownBlock) (Kd.R_apart' (HO1111.out) (Kd.S_typed HO_5.out) (by decide)) (fun k_ hk => ⟨trivial, hk.2⟩))).1 k_ hk_.symm) ?aF ?aO ?aB ?aS ?aL ?_; (case aP => exact k61_mkM _ _ _ (⟨t1104, t1105, t1106, t1107, t1108, t1109, t1112, t1113⟩ : S61) (Kd.R_mono (Kd.R_tight rfl (Kd.R_mono (ok' := fun k_ => ((fun _ => True)) k_ ∧ some k_ ≠ (u5 : Value).ownBlock) (Kd.R_apart' (HO1111.out) (Kd.S_typed HO_5.out) (by decide)) (fun k_ hk => ⟨trivial, hk.2⟩))) (fun _ h_ => h_))); (case aB => exact (by repeat (first | (with_reducible first | exact HB.out | apply below_alloc | apply pw_below_drewN | apply below_drew1) | exact HB.out))); (case aF => exact (fun _ _ => trivial)); (case aO => exact (by (with_reducible repeat (first | apply Kd.S_alloc | apply Kd.S_drewN | apply Kd.S_drew)); exact Kd.S_mono HO_5.out (fun k_ hk => ⟨trivial, fun e_ => hk.2 e_⟩))); (case aS => exact (below_size (by repeat (first | (with_reducible first | exact HB.out | apply below_alloc | apply pw_below_drewN | apply below_drew1) | exact HB.out)))); (case aL => have := LMc10.out; omega); intro v1115 w12 ho hb hg hat; rw [← Ny1114.out] at ho; have n0_ := Aside0.mk (hb); have n1_ := Aside0.mk (ho); clear HB; clear HO_5; clear HO1111; have HB := n0_; have HO1116 := n1_; clear n0_ n1_; clear ho hb hg hat))
              go_roundg k1
              case measure => have := HK1.out; omega
              case rel => exact ⟨(y1114), (wrap64 (x6_1 + 1)), (by first | rfl | (simp; done) | (simp [*]; done)), H', ⟨by have := HK1.out; omega⟩, ⟨by (with_reducible repeat (first | apply Kd.S_alloc | apply Kd.S_drewN | apply Kd.S_drew)); exact HO1116.out⟩, ⟨by repeat (first | (with_reducible first | exact HB.out | apply below_alloc | apply pw_below_drewN | apply below_drew1) | exact HB.out)⟩⟩
            · rw [if_neg c10] at H
              exact absurd H (by simp)
          · rw [if_neg c7] at H
            have c7b0 : (((rd_T61 l0 x6_1).f0) == a1) = false := beq_eq_false_iff_ne.mpr c7
            have c7b1 : (((rd_T61 l0 x6_1).f0) != a1) = true := bne_iff_ne.mpr c7
            have HC14 := Aside0.mk H
            clear H
            have p1102 : 0 ≤ (x6_1 : Int) := of_decide_eq_true (by first | (with_reducible assumption) | assumption)
            have q1102 : x6_1 < (l0.length : Int) := of_decide_eq_true (by first | (with_reducible assumption) | assumption)
            obtain ⟨ad1102, A1102_5, c1102_5, e1102, hx1102_0, hx1102_1, hx1102_2, hx1102_3, hx1102_4, hx1102_5, hx1102_6, hx1102_7, hl1102_5, hi1102_5⟩ := at_T61 HR0.out x6_1 p1102 q1102
            cases e1102
            replace hx1102_0 := (HB.out.cell (World.block_lt_of_cell? w _ hx1102_0)).trans hx1102_0
            replace hx1102_1 := (HB.out.cell (World.block_lt_of_cell? w _ hx1102_1)).trans hx1102_1
            replace hx1102_2 := (HB.out.cell (World.block_lt_of_cell? w _ hx1102_2)).trans hx1102_2
            replace hx1102_3 := (HB.out.cell (World.block_lt_of_cell? w _ hx1102_3)).trans hx1102_3
            replace hx1102_4 := (HB.out.cell (World.block_lt_of_cell? w _ hx1102_4)).trans hx1102_4
            replace hx1102_5 := (HB.out.cell (World.block_lt_of_cell? w _ hx1102_5)).trans hx1102_5
            replace hx1102_6 := (HB.out.cell (World.block_lt_of_cell? w _ hx1102_6)).trans hx1102_6
            replace hx1102_7 := (HB.out.cell (World.block_lt_of_cell? w _ hx1102_7)).trans hx1102_7
            have HR1102_5 := Aside0.mk hi1102_5
            have HC1102_5 := Aside0.mk hl1102_5
            clear hi1102_5 hl1102_5
            replace p1102 := eq_true p1102
            replace q1102 := eq_true q1102
            have p1117 : 0 ≤ (x6_1 : Int) := of_decide_eq_true (by first | (with_reducible assumption) | assumption)
            have q1117 : x6_1 < (l0.length : Int) := of_decide_eq_true (by first | (with_reducible assumption) | assumption)
            obtain ⟨ad1117, A1117_5, c1117_5, e1117, hx1117_0, hx1117_1, hx1117_2, hx1117_3, hx1117_4, hx1117_5, hx1117_6, hx1117_7, hl1117_5, hi1117_5⟩ := at_T61 HR0.out x6_1 p1117 q1117
            obtain rfl : ad1102 = ad1117 := (by injection e1117)
            replace hx1117_0 := (HB.out.cell (World.block_lt_of_cell? w _ hx1117_0)).trans hx1117_0
            replace hx1117_1 := (HB.out.cell (World.block_lt_of_cell? w _ hx1117_1)).trans hx1117_1
            replace hx1117_2 := (HB.out.cell (World.block_lt_of_cell? w _ hx1117_2)).trans hx1117_2
            replace hx1117_3 := (HB.out.cell (World.block_lt_of_cell? w _ hx1117_3)).trans hx1117_3
            replace hx1117_4 := (HB.out.cell (World.block_lt_of_cell? w _ hx1117_4)).trans hx1117_4
            replace hx1117_5 := (HB.out.cell (World.block_lt_of_cell? w _ hx1117_5)).trans hx1117_5
            replace hx1117_6 := (HB.out.cell (World.block_lt_of_cell? w _ hx1117_6)).trans hx1117_6
            replace hx1117_7 := (HB.out.cell (World.block_lt_of_cell? w _ hx1117_7)).trans hx1117_7
            have HR1117_5 := Aside0.mk hi1117_5
            have HC1117_5 := Aside0.mk hl1117_5
            clear hi1117_5 hl1117_5
            replace p1117 := eq_true p1117
            replace q1117 := eq_true q1117
            have ea_ := Option.some.inj (hx1102_5.symm.trans hx1117_5)
            injection ea_ with ea_ en_ ec_
            subst ea_
            subst ec_
            clear en_
            go_upto_if 28 with (fail)
            (try clear hx1102_0); (try clear hx1102_1); (try clear hx1102_2); (try clear hx1102_3); (try clear hx1102_4); (try clear hx1102_5); (try clear hx1102_6); (try clear hx1102_7); (try clear hx1117_0); (try clear hx1117_1); (try clear hx1117_2); (try clear hx1117_3); (try clear hx1117_4); (try clear hx1117_5); (try clear hx1117_6); (try clear hx1117_7)
            have H := HC14.out
            clear HC14
            by_cases c15 : ((rd_T61 l0 x6_1).f0) = 9
            · rw [if_pos c15] at H
              have c15b0 : (((rd_T61 l0 x6_1).f0) == 9) = true := beq_iff_eq.mpr c15
              have c15b1 : (((rd_T61 l0 x6_1).f0) != 9) = false := bne_eq_false_iff_eq.mpr c15
              clear c15
              (first | rw [c15b0] | rw [c15b1] | (simp only [i64_w, i32_w]; first | rw [c15b0] | rw [c15b1]) | skip)
              replace H := Option.bind_eq_some_iff.mp H
              obtain ⟨⟨t1119, t1120, t1121, t1122, t1123, t1124, t1127, t1128⟩, A160, H⟩ := H
              replace H : (if x5_1.length < 1759218604441 then (spec_Scope.l0 k1 l0 a1 (x5_1 ++ [(⟨t1119, t1120, t1121, t1122, t1123, t1124, t1127, t1128⟩ : S61)]) (wrap64 (x6_1 + 1))) else (none)) = some r := H
              have A16 := Aside0.mk A160
              clear A160
              by_cases c17 : x5_1.length < 1759218604441
              · rw [if_pos c17] at H
                have LMc17 := Aside0.mk c17
                clear c17
                obtain ⟨y1129, hy1129⟩ : ∃ y_ : List (S61), y_ = (x5_1 ++ [(⟨t1119, t1120, t1121, t1122, t1123, t1124, t1127, t1128⟩ : S61)]) := ⟨_, rfl⟩
                replace H : (spec_Scope.l0 k1 l0 a1 y1129 (wrap64 (x6_1 + 1))) = some r := by first | (rw [hy1129]; with_reducible exact H) | (have H2_ := (Option.bind_some _ _).symm.trans H; rw [hy1129]; with_reducible exact H2_) | (have H2_ := (Option.bind_some _ _).symm.trans H; with_reducible exact H2_) | with_reducible exact H | (rw [hy1129]; exact H) | exact H
                have Ny1129 := Aside0.mk hy1129
                clear hy1129
                have H' := Aside0.mk H
                clear H
                have p1118 : 0 ≤ (x6_1 : Int) := of_decide_eq_true (by first | (with_reducible assumption) | assumption)
                have q1118 : x6_1 < (l0.length : Int) := of_decide_eq_true (by first | (with_reducible assumption) | assumption)
                obtain ⟨ad1118, A1118_5, c1118_5, e1118, hx1118_0, hx1118_1, hx1118_2, hx1118_3, hx1118_4, hx1118_5, hx1118_6, hx1118_7, hl1118_5, hi1118_5⟩ := at_T61 HR0.out x6_1 p1118 q1118
                obtain rfl : ad1102 = ad1118 := (by injection e1118)
                replace hx1118_0 := (HB.out.cell (World.block_lt_of_cell? w _ hx1118_0)).trans hx1118_0
                replace hx1118_1 := (HB.out.cell (World.block_lt_of_cell? w _ hx1118_1)).trans hx1118_1
                replace hx1118_2 := (HB.out.cell (World.block_lt_of_cell? w _ hx1118_2)).trans hx1118_2
                replace hx1118_3 := (HB.out.cell (World.block_lt_of_cell? w _ hx1118_3)).trans hx1118_3
                replace hx1118_4 := (HB.out.cell (World.block_lt_of_cell? w _ hx1118_4)).trans hx1118_4
                replace hx1118_5 := (HB.out.cell (World.block_lt_of_cell? w _ hx1118_5)).trans hx1118_5
                replace hx1118_6 := (HB.out.cell (World.block_lt_of_cell? w _ hx1118_6)).trans hx1118_6
                replace hx1118_7 := (HB.out.cell (World.block_lt_of_cell? w _ hx1118_7)).trans hx1118_7
                have HR1118_5 := Aside0.mk hi1118_5
                have HC1118_5 := Aside0.mk hl1118_5
                clear hi1118_5 hl1118_5
                replace p1118 := eq_true p1118
                replace q1118 := eq_true q1118
                go_wp2_with (first | ((with_reducible refine gate_callee (f := 94) rfl ?_); refine goesL_ (some 34) rfl rfl Try.func94 (by kernel_rfl) rfl #[.agg #[.int .i64 ((rd_T61 l0 x6_1).f0), .int .i64 ((rd_T61 l0 x6_1).f1), .int .i64 ((rd_T61 l0 x6_1).f2), .int .i64 ((rd_T61 l0 x6_1).f3), .int .i64 ((rd_T61 l0 x6_1).f4), .slice A1118_5 ((rd_T61 l0 x6_1).f5).length c1118_5, .int .i64 ((rd_T61 l0 x6_1).f6), .bool ((rd_T61 l0 x6_1).f7)]] rfl (by (try simp only [List.map_toArray, List.map_cons, List.map_nil]); first | done | rfl | (simp only [List.length_drop, List.length_take]; rfl)) ?_; (with_reducible refine (spec_l04Copy.calls ((rd_T61 l0 x6_1).f0) ((rd_T61 l0 x6_1).f1) ((rd_T61 l0 x6_1).f2) ((rd_T61 l0 x6_1).f3) ((rd_T61 l0 x6_1).f4) _ _ ((rd_T61 l0 x6_1).f5) ((rd_T61 l0 x6_1).f6) ((rd_T61 l0 x6_1).f7) t1119 t1120 t1121 t1122 t1123 t1124 t1127 t1128 _ ?side1 ?side2 A16.out).mono ?_); (case side1 => repeat (first | exact (Kd.C_below HR1118_5.out HB.out) | (with_reducible refine Kd.C_alloc ?_ _) | (with_reducible refine Kd.C_drewN ?_ _) | (with_reducible refine Kd.C_drew ?_))); (case side2 => exact HC1118_5.out); rintro e w18 ⟨v1125, rfl, ho0, hb⟩; refine ⟨_, rfl, ?_⟩; have hs_v1125 : (v1125 : Value).oneCell' = true := (by first | (obtain ⟨A_, c_, e_⟩ := Kd.R_slice ho0; simp [e_, Value.oneCell']) | (obtain ⟨A_, c_, e_⟩ := Kd.S_slice ho0; simp [e_, Value.oneCell']) | (obtain ⟨A_, c_, e_⟩ := Kd.N_slice ho0; simp [e_, Value.oneCell']) | (obtain ⟨A_, c_, e_⟩ := Kd.V_slice ho0; simp [e_, Value.oneCell'])); have hst_v1125 := fun (w_ : World) (a_ : Addr) m_ => run_store Try.prog w_ a_ v1125 m_ hs_v1125; have n0_ := Aside0.mk (Kd.S_elder' (by (with_reducible repeat (first | apply Kd.S_alloc | apply Kd.S_drewN | apply Kd.S_drew)); exact HO_5.out) (Kd.R_base ho0) hb); have n1_ := Aside0.mk (Kd.R_lower ho0 (below_size (by repeat (first | (with_reducible first | exact HB.out | apply below_alloc | apply pw_below_drewN | apply below_drew1) | exact HB.out)))); have n2_ := Aside0.mk (below_step (by repeat (first | (with_reducible first | exact HB.out | apply below_alloc | apply pw_below_drewN | apply below_drew1) | exact HB.out)) hb); clear HO_5; clear HB; have HO_5 := n0_; have HO1126 := n1_; have HB := n2_; clear n0_ n1_ n2_; (try clear hb); (try clear hb2); (try clear hk); (try clear hi); (try clear ho0); obtain ⟨Ao20, co20, eo20⟩ := Kd.R_slice HO1126.out; subst eo20) | ((with_reducible refine gate_builtin (b := .append) (xs := #[.tmp 29, .tmp 35]) rfl ?_); at_builtin; refine Kd.S_append k61 (w0 := w) w.heap.size rfl (.tmp 29) (.tmp 35) 41 61 (.agg #[(.int .i64 0), (.int .i64 0), (.int .i64 0), (.int .i64 0), (.int .i64 0), (.slice none 0 0), (.int .i64 0), (.bool false)]) 80 rfl Try.underlying41 info61 rfl (by decide) (by omega) u5 x5_1 (⟨t1119, t1120, t1121, t1122, t1123, t1124, t1127, t1128⟩ : S61) [.int .i64 t1119, .int .i64 t1120, .int .i64 t1121, .int .i64 t1122, .int .i64 t1123, .slice Ao20 t1124.length co20, .int .i64 t1127, .bool t1128] (fun _ => True) (fun k_ => some k_ = (.slice Ao20 t1124.length co20 : Value).ownBlock) rfl rfl ?aP (fun k_ hk_ => ((Kd.R_mono (ok' := fun k_ => ((fun _ => True)) k_ ∧ some k_ ≠ (u5 : Value).ownBlock) (Kd.R_apart' (HO1126.out) (Kd.S_typed HO_5.out) (by decide)) (fun k_ hk => ⟨trivial, hk.2⟩))).1 k_ hk_.symm) ?aF ?aO ?aB ?aS ?aL ?_; (case aP => exact k61_mkM _ _ _ (⟨t1119, t1120, t1121, t1122, t1123, t1124, t1127, t1128⟩ : S61) (Kd.R_mono (Kd.R_tight rfl (Kd.R_mono (ok' := fun k_ => ((fun _ => True)) k_ ∧ some k_ ≠ (u5 : Value).ownBlock) (Kd.R_apart' (HO1126.out) (Kd.S_typed HO_5.out) (by decide)) (fun k_ hk => ⟨trivial, hk.2⟩))) (fun _ h_ => h_))); (case aB => exact (by repeat (first | (with_reducible first | exact HB.out | apply below_alloc | apply pw_below_drewN | apply below_drew1) | exact HB.out))); (case aF => exact (fun _ _ => trivial)); (case aO => exact (by (with_reducible repeat (first | apply Kd.S_alloc | apply Kd.S_drewN | apply Kd.S_drew)); exact Kd.S_mono HO_5.out (fun k_ hk => ⟨trivial, fun e_ => hk.2 e_⟩))); (case aS => exact (below_size (by repeat (first | (with_reducible first | exact HB.out | apply below_alloc | apply pw_below_drewN | apply below_drew1) | exact HB.out)))); (case aL => have := LMc17.out; omega); intro v1130 w19 ho hb hg hat; rw [← Ny1129.out] at ho; have n0_ := Aside0.mk (hb); have n1_ := Aside0.mk (ho); clear HB; clear HO_5; clear HO1126; have HB := n0_; have HO1131 := n1_; clear n0_ n1_; clear ho hb hg hat))
                go_roundg k1
                case measure => have := HK1.out; omega
                case rel => exact ⟨(y1129), (wrap64 (x6_1 + 1)), (by first | rfl | (simp; done) | (simp [*]; done)), H', ⟨by have := HK1.out; omega⟩, ⟨by (with_reducible repeat (first | apply Kd.S_alloc | apply Kd.S_drewN | apply Kd.S_drew)); exact HO1131.out⟩, ⟨by repeat (first | (with_reducible first | exact HB.out | apply below_alloc | apply pw_below_drewN | apply below_drew1) | exact HB.out)⟩⟩
              · rw [if_neg c17] at H
                exact absurd H (by simp)
            · rw [if_neg c15] at H
              have c15b0 : (((rd_T61 l0 x6_1).f0) == 9) = false := beq_eq_false_iff_ne.mpr c15
              have c15b1 : (((rd_T61 l0 x6_1).f0) != 9) = true := bne_iff_ne.mpr c15
              (first | rw [c15b0] | rw [c15b1] | (simp only [i64_w, i32_w]; first | rw [c15b0] | rw [c15b1]) | skip)
              have H' := Aside0.mk H
              clear H
              go_wp2
              go_roundg k1
              case measure => have := HK1.out; omega
              case rel => exact ⟨(x5_1), (wrap64 (x6_1 + 1)), (by first | rfl | (simp; done) | (simp [*]; done)), H', ⟨by have := HK1.out; omega⟩, ⟨by (with_reducible repeat (first | apply Kd.S_alloc | apply Kd.S_drewN | apply Kd.S_drew)); exact HO_5.out⟩, ⟨by repeat (first | (with_reducible first | exact HB.out | apply below_alloc | apply pw_below_drewN | apply below_drew1) | exact HB.out)⟩⟩
        · rw [if_neg c6] at H
          exact absurd H (by simp)
      · rw [if_neg c5] at H
        have c5b0 : decide (x6_1 < (l0.length : Int)) = false := decide_eq_false c5
        clear c5
        obtain rfl := Option.some.inj H
        go_wp2
        go_ret
        exact ⟨_, by first | rfl | (simp [errW_none, errW_some] <;> rfl) | (simp [*, errW_none, errW_some] <;> rfl), by (with_reducible repeat (first | apply Kd.S_alloc | apply Kd.S_drewN | apply Kd.S_drew)); exact HO_5.out, by repeat (first | (with_reducible first | exact HB.out | apply below_alloc | apply pw_below_drewN | apply below_drew1) | exact HB.out)⟩

end Go.Proofs.Ythjmdiggglkeaaa.Q
