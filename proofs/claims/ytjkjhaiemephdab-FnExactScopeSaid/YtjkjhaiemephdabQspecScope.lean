/- A Go function as a Lean function, and its contract: for every input the Go code comes to what the Lean function tells. -/
import Derived.Test.YtjkjhaiemephdabQk
import Derived.Test.YtjkjhaiemephdabQspecl04Copy
namespace Go.Proofs.Ytjkjhaiemephdab.Q
open Go.RowKit Go.Proofs.YtjkjhaiemephdabW.PrintWords Go.Proofs.YtjkjhaiemephdabW.PrintLast Go.Proofs.YtjkjhaiemephdabW.PrintMore
attribute [local go_sem] max2_int min2_int max_two min_two max_three min_three max_four min_four   -- for this text's walks alone
set_option linter.unusedVariables false
set_option linter.unusedSimpArgs false

/-! ### spec_Scope: function 52 -/
def spec_Scope.l0 : Nat → List (S52) → Int → List (S52) → Int → Option ((List (S52)))
  | 0, _, _, _, _ => none
  | k + 1, x0, x1, x5, x6 => if x6 < (x0.length : Int) then (if 0 ≤ x6 then (if ((rd_T52 x0 x6).f0) = x1 then ((spec_l04Copy.f ((rd_T52 x0 x6).f0) ((rd_T52 x0 x6).f1) ((rd_T52 x0 x6).f2) ((rd_T52 x0 x6).f3) ((rd_T52 x0 x6).f4) ((rd_T52 x0 x6).f5) ((rd_T52 x0 x6).f6) ((rd_T52 x0 x6).f7)).bind fun bt1073 => (if x5.length < 1759218604441 then (spec_Scope.l0 k x0 x1 (x5 ++ [(⟨bt1073.1, bt1073.2.1, bt1073.2.2.1, bt1073.2.2.2.1, bt1073.2.2.2.2.1, bt1073.2.2.2.2.2.1, bt1073.2.2.2.2.2.2.1, bt1073.2.2.2.2.2.2.2⟩ : S52)]) (wrap64 (x6 + 1))) else (none))) else (if ((rd_T52 x0 x6).f0) = 9 then ((spec_l04Copy.f ((rd_T52 x0 x6).f0) ((rd_T52 x0 x6).f1) ((rd_T52 x0 x6).f2) ((rd_T52 x0 x6).f3) ((rd_T52 x0 x6).f4) ((rd_T52 x0 x6).f5) ((rd_T52 x0 x6).f6) ((rd_T52 x0 x6).f7)).bind fun bt1088 => (if x5.length < 1759218604441 then (spec_Scope.l0 k x0 x1 (x5 ++ [(⟨bt1088.1, bt1088.2.1, bt1088.2.2.1, bt1088.2.2.2.1, bt1088.2.2.2.2.1, bt1088.2.2.2.2.2.1, bt1088.2.2.2.2.2.2.1, bt1088.2.2.2.2.2.2.2⟩ : S52)]) (wrap64 (x6 + 1))) else (none))) else (spec_Scope.l0 k x0 x1 x5 (wrap64 (x6 + 1))))) else (none)) else (some x5)
def spec_Scope.f (k : Nat) (l0 : List (S52)) (a1 : Int) : Option ((List (S52))) := spec_Scope.l0 k l0 a1 (([] : List (S52))) 0
theorem spec_Scope.mono_l : ∀ k, (∀ y0 y1 y2 y3, LeO (spec_Scope.l0 k y0 y1 y2 y3) (spec_Scope.l0 (k + 1) y0 y1 y2 y3))
  | 0 => fun _ _ _ _ r h => by simp [spec_Scope.l0] at h
  | k + 1 => by
    have ih0 := spec_Scope.mono_l k
    · intro y0 y1 y2 y3
      unfold spec_Scope.l0
      repeat' first
      | (with_reducible exact ih0 _ _ _ _)
      | (with_reducible exact LeO.refl _)
      | (with_reducible exact LeO.none _)
      | (with_reducible refine LeO.ite ?_ ?_)
      | (with_reducible refine LeO.bind ?_ (fun _ => ?_))
      | exact ih0 _ _ _ _
      | exact LeO.none _
      | refine LeO.ite ?_ ?_
      | refine LeO.bind ?_ (fun _ => ?_)
theorem spec_Scope.mono : ∀ a0 a1 k, LeO (spec_Scope.f k a0 a1) (spec_Scope.f (k + 1) a0 a1) := by
  intro a0 a1 k
  have ih0 := spec_Scope.mono_l k
  unfold spec_Scope.f
  repeat' first
      | (with_reducible exact ih0 _ _ _ _)
      | (with_reducible exact LeO.refl _)
      | (with_reducible exact LeO.none _)
      | (with_reducible refine LeO.ite ?_ ?_)
      | (with_reducible refine LeO.bind ?_ (fun _ => ?_))
      | exact ih0 _ _ _ _
      | exact LeO.none _
      | refine LeO.ite ?_ ?_
      | refine LeO.bind ?_ (fun _ => ?_)
set_option maxHeartbeats 8000000 in
set_option maxRecDepth 100000 in
theorem spec_Scope.calls (k : Nat) (A0 : Option Addr) (c0 : Nat) (l0 : List (S52)) (a1 : Int) (r : List (S52)) (w : World) (hr0 : Kd.C k52 w A0 l0.length l0) (hc0 : l0.length ≤ c0) (h : spec_Scope.f k l0 a1 = some r) :
    Calls Try.prog 52 #[.slice A0 l0.length c0, .int .i64 a1] w fun e w' => ∃ v0_ : Value, e = .returned (v0_) ∧ Kd.S k52 52 w' w.heap.size (fun _ => True) v0_ r ∧ Below w.heap.size w w' := by
  have hu52 := Try.underlying52
  have HR0 := Aside0.mk hr0
  have HC0 := Aside0.mk hc0
  clear hr0 hc0
  have HB := Aside0.mk (Below.refl w.heap.size w)
  have H : (spec_Scope.l0 k l0 a1 (([] : List (S52))) 0) = some r := h
  clear h
  obtain ⟨y1068, hy1068⟩ : ∃ y_ : List (S52), y_ = (([] : List (S52))) := ⟨_, rfl⟩
  replace H : (spec_Scope.l0 k l0 a1 y1068 0) = some r := by first | (rw [hy1068]; with_reducible exact H) | (have H2_ := (Option.bind_some _ _).symm.trans H; rw [hy1068]; with_reducible exact H2_) | (have H2_ := (Option.bind_some _ _).symm.trans H; with_reducible exact H2_) | with_reducible exact H | (rw [hy1068]; exact H) | exact H
  have Ny1068 := Aside0.mk hy1068
  clear hy1068
  have H' := Aside0.mk H
  clear H
  go_enter Try.func52, Try.ntmps52
  go_wp2_with (first | ((with_reducible refine gate_dst (N := 7) rfl ?_); refine Kd.S_lit k52 _ 52 ?hg (N := 7) ?hd (xs := ([] : List (S52))) (inner := []) (ok := fun _ => True) (okp := fun _ => True) ?hr ?hp (fun _ hk => hk) trivial (Below.refl _ _) (Nat.le_refl _) (by simp) ?_; (case hd => rfl); (case hg => rfl); (case hr => first | (go_simp; done) | (go_simp; rfl)); (case hp => exact (Reps.none _ _)); intro v1069 w3 ho4 hb hg_ hnew_; clear hg_ hnew_; (first | rw [← Ny1068.out] at ho4 | (simp only [Int.reduceToNat] at ho4; rw [← Ny1068.out] at ho4)); have n0_ := Aside0.mk (Kd.S_lower ho4 (below_size (by repeat (first | (with_reducible first | exact HB.out | apply below_alloc | apply pw_below_drewN | apply below_drew1) | exact HB.out)))); have n1_ := Aside0.mk (below_step (by repeat (first | (with_reducible first | exact HB.out | apply below_alloc | apply pw_below_drewN | apply below_drew1) | exact HB.out)) hb); clear HB; have HO1070 := n0_; have HB := n1_; clear n0_ n1_; clear hb ho4))
  go_loopg [5, 6] k (fun kq v5 v6 w' => ∃ (x5_1 : List (S52)) (x6_1 : Int), v6 = .int .i64 x6_1 ∧ Aside0 (spec_Scope.l0 kq l0 a1 x5_1 x6_1 = some r) ∧ Aside0 (kq ≤ k) ∧ Aside0 (Kd.S k52 52 w' w.heap.size (fun _ => True) v5 x5_1) ∧ Aside0 (Below w.heap.size w w'))
  case atStart => exact ⟨(y1068), (0), (by first | rfl | (simp; done) | (simp [*]; done)), H', ⟨Nat.le_refl _⟩, ⟨by (with_reducible repeat (first | apply Kd.S_alloc | apply Kd.S_drewN | apply Kd.S_drew)); exact HO1070.out⟩, ⟨by repeat (first | (with_reducible first | exact HB.out | apply below_alloc | apply pw_below_drewN | apply below_drew1) | exact HB.out)⟩⟩
  case round =>
    clear H'
    try clear p2
    obtain ⟨x5_1, x6_1, rfl, HA, HK1, HO_5, HB⟩ := hrel
    cases gk with
    | zero => exact absurd HA.out (by simp [spec_Scope.l0])
    | succ k1 =>
      have H := HA.out
      clear HA
      simp only [spec_Scope.l0] at H
      by_cases c5 : x6_1 < (l0.length : Int)
      · rw [if_pos c5] at H
        have c5b0 : decide (x6_1 < (l0.length : Int)) = true := decide_eq_true c5
        clear c5
        by_cases c6 : 0 ≤ x6_1
        · rw [if_pos c6] at H
          have c6b0 : decide (0 ≤ x6_1) = true := decide_eq_true c6
          clear c6
          by_cases c7 : ((rd_T52 l0 x6_1).f0) = a1
          · rw [if_pos c7] at H
            have c7b0 : (((rd_T52 l0 x6_1).f0) == a1) = true := beq_iff_eq.mpr c7
            have c7b1 : (((rd_T52 l0 x6_1).f0) != a1) = false := bne_eq_false_iff_eq.mpr c7
            clear c7
            replace H := Option.bind_eq_some_iff.mp H
            obtain ⟨⟨t1073, t1074, t1075, t1076, t1077, t1078, t1081, t1082⟩, A80, H⟩ := H
            replace H : (if x5_1.length < 1759218604441 then (spec_Scope.l0 k1 l0 a1 (x5_1 ++ [(⟨t1073, t1074, t1075, t1076, t1077, t1078, t1081, t1082⟩ : S52)]) (wrap64 (x6_1 + 1))) else (none)) = some r := H
            have A8 := Aside0.mk A80
            clear A80
            by_cases c9 : x5_1.length < 1759218604441
            · rw [if_pos c9] at H
              have LMc9 := Aside0.mk c9
              clear c9
              obtain ⟨y1083, hy1083⟩ : ∃ y_ : List (S52), y_ = (x5_1 ++ [(⟨t1073, t1074, t1075, t1076, t1077, t1078, t1081, t1082⟩ : S52)]) := ⟨_, rfl⟩
              replace H : (spec_Scope.l0 k1 l0 a1 y1083 (wrap64 (x6_1 + 1))) = some r := by first | (rw [hy1083]; with_reducible exact H) | (have H2_ := (Option.bind_some _ _).symm.trans H; rw [hy1083]; with_reducible exact H2_) | (have H2_ := (Option.bind_some _ _).symm.trans H; with_reducible exact H2_) | with_reducible exact H | (rw [hy1083]; exact H) | exact H
              have Ny1083 := Aside0.mk hy1083
              clear hy1083
              have H' := Aside0.mk H
              clear H
              have p1071 : 0 ≤ (x6_1 : Int) := of_decide_eq_true (by first | (with_reducible assumption) | assumption)
              have q1071 : x6_1 < (l0.length : Int) := of_decide_eq_true (by first | (with_reducible assumption) | assumption)
              obtain ⟨ad1071, A1071_5, c1071_5, e1071, hx1071_0, hx1071_1, hx1071_2, hx1071_3, hx1071_4, hx1071_5, hx1071_6, hx1071_7, hl1071_5, hi1071_5⟩ := at_T52 HR0.out x6_1 p1071 q1071
              cases e1071
              replace hx1071_0 := (HB.out.cell (World.block_lt_of_cell? w _ hx1071_0)).trans hx1071_0
              replace hx1071_1 := (HB.out.cell (World.block_lt_of_cell? w _ hx1071_1)).trans hx1071_1
              replace hx1071_2 := (HB.out.cell (World.block_lt_of_cell? w _ hx1071_2)).trans hx1071_2
              replace hx1071_3 := (HB.out.cell (World.block_lt_of_cell? w _ hx1071_3)).trans hx1071_3
              replace hx1071_4 := (HB.out.cell (World.block_lt_of_cell? w _ hx1071_4)).trans hx1071_4
              replace hx1071_5 := (HB.out.cell (World.block_lt_of_cell? w _ hx1071_5)).trans hx1071_5
              replace hx1071_6 := (HB.out.cell (World.block_lt_of_cell? w _ hx1071_6)).trans hx1071_6
              replace hx1071_7 := (HB.out.cell (World.block_lt_of_cell? w _ hx1071_7)).trans hx1071_7
              have HR1071_5 := Aside0.mk hi1071_5
              have HC1071_5 := Aside0.mk hl1071_5
              clear hi1071_5 hl1071_5
              replace p1071 := eq_true p1071
              replace q1071 := eq_true q1071
              have p1072 : 0 ≤ (x6_1 : Int) := of_decide_eq_true (by first | (with_reducible assumption) | assumption)
              have q1072 : x6_1 < (l0.length : Int) := of_decide_eq_true (by first | (with_reducible assumption) | assumption)
              obtain ⟨ad1072, A1072_5, c1072_5, e1072, hx1072_0, hx1072_1, hx1072_2, hx1072_3, hx1072_4, hx1072_5, hx1072_6, hx1072_7, hl1072_5, hi1072_5⟩ := at_T52 HR0.out x6_1 p1072 q1072
              obtain rfl : ad1071 = ad1072 := (by injection e1072)
              replace hx1072_0 := (HB.out.cell (World.block_lt_of_cell? w _ hx1072_0)).trans hx1072_0
              replace hx1072_1 := (HB.out.cell (World.block_lt_of_cell? w _ hx1072_1)).trans hx1072_1
              replace hx1072_2 := (HB.out.cell (World.block_lt_of_cell? w _ hx1072_2)).trans hx1072_2
              replace hx1072_3 := (HB.out.cell (World.block_lt_of_cell? w _ hx1072_3)).trans hx1072_3
              replace hx1072_4 := (HB.out.cell (World.block_lt_of_cell? w _ hx1072_4)).trans hx1072_4
              replace hx1072_5 := (HB.out.cell (World.block_lt_of_cell? w _ hx1072_5)).trans hx1072_5
              replace hx1072_6 := (HB.out.cell (World.block_lt_of_cell? w _ hx1072_6)).trans hx1072_6
              replace hx1072_7 := (HB.out.cell (World.block_lt_of_cell? w _ hx1072_7)).trans hx1072_7
              have HR1072_5 := Aside0.mk hi1072_5
              have HC1072_5 := Aside0.mk hl1072_5
              clear hi1072_5 hl1072_5
              replace p1072 := eq_true p1072
              replace q1072 := eq_true q1072
              have ea_ := Option.some.inj (hx1071_5.symm.trans hx1072_5)
              injection ea_ with ea_ en_ ec_
              subst ea_
              subst ec_
              clear en_
              go_wp2_with (first | ((with_reducible refine gate_callee (f := 97) rfl ?_); refine goesL_ (some 34) rfl rfl Try.func97 (by kernel_rfl) rfl #[.agg #[.int .i64 ((rd_T52 l0 x6_1).f0), .int .i64 ((rd_T52 l0 x6_1).f1), .int .i64 ((rd_T52 l0 x6_1).f2), .int .i64 ((rd_T52 l0 x6_1).f3), .int .i64 ((rd_T52 l0 x6_1).f4), .slice A1071_5 ((rd_T52 l0 x6_1).f5).length c1071_5, .int .i64 ((rd_T52 l0 x6_1).f6), .bool ((rd_T52 l0 x6_1).f7)]] rfl (by (try simp only [List.map_toArray, List.map_cons, List.map_nil]); first | done | rfl | (simp only [List.length_drop, List.length_take]; rfl)) ?_; (with_reducible refine (spec_l04Copy.calls ((rd_T52 l0 x6_1).f0) ((rd_T52 l0 x6_1).f1) ((rd_T52 l0 x6_1).f2) ((rd_T52 l0 x6_1).f3) ((rd_T52 l0 x6_1).f4) _ _ ((rd_T52 l0 x6_1).f5) ((rd_T52 l0 x6_1).f6) ((rd_T52 l0 x6_1).f7) t1073 t1074 t1075 t1076 t1077 t1078 t1081 t1082 _ ?side1 ?side2 A8.out).mono ?_); (case side1 => repeat (first | exact (Kd.C_below HR1072_5.out HB.out) | (with_reducible refine Kd.C_alloc ?_ _) | (with_reducible refine Kd.C_drewN ?_ _) | (with_reducible refine Kd.C_drew ?_))); (case side2 => exact HC1072_5.out); rintro e w10 ⟨v1079, rfl, ho0, hb⟩; refine ⟨_, rfl, ?_⟩; have hs_v1079 : (v1079 : Value).oneCell' = true := (by first | (obtain ⟨A_, c_, e_⟩ := Kd.R_slice ho0; simp [e_, Value.oneCell']) | (obtain ⟨A_, c_, e_⟩ := Kd.S_slice ho0; simp [e_, Value.oneCell']) | (obtain ⟨A_, c_, e_⟩ := Kd.N_slice ho0; simp [e_, Value.oneCell']) | (obtain ⟨A_, c_, e_⟩ := Kd.V_slice ho0; simp [e_, Value.oneCell'])); have hst_v1079 := fun (w_ : World) (a_ : Addr) m_ => run_store Try.prog w_ a_ v1079 m_ hs_v1079; have n0_ := Aside0.mk (Kd.S_elder' (by (with_reducible repeat (first | apply Kd.S_alloc | apply Kd.S_drewN | apply Kd.S_drew)); exact HO_5.out) (Kd.R_base ho0) hb); have n1_ := Aside0.mk (Kd.R_lower ho0 (below_size (by repeat (first | (with_reducible first | exact HB.out | apply below_alloc | apply pw_below_drewN | apply below_drew1) | exact HB.out)))); have n2_ := Aside0.mk (below_step (by repeat (first | (with_reducible first | exact HB.out | apply below_alloc | apply pw_below_drewN | apply below_drew1) | exact HB.out)) hb); clear HO_5; clear HB; have HO_5 := n0_; have HO1080 := n1_; have HB := n2_; clear n0_ n1_ n2_; (try clear hb); (try clear hb2); (try clear hk); (try clear hi); (try clear ho0); obtain ⟨Ao12, co12, eo12⟩ := Kd.R_slice HO1080.out; subst eo12) | ((with_reducible refine gate_builtin (b := .append) (xs := #[.tmp 29, .tmp 35]) rfl ?_); at_builtin; refine Kd.S_append k52 (w0 := w) w.heap.size rfl (.tmp 29) (.tmp 35) 38 52 (.agg #[(.int .i64 0), (.int .i64 0), (.int .i64 0), (.int .i64 0), (.int .i64 0), (.slice none 0 0), (.int .i64 0), (.bool false)]) 80 rfl Try.underlying38 info52 rfl (by decide) (by omega) u5 x5_1 (⟨t1073, t1074, t1075, t1076, t1077, t1078, t1081, t1082⟩ : S52) [.int .i64 t1073, .int .i64 t1074, .int .i64 t1075, .int .i64 t1076, .int .i64 t1077, .slice Ao12 t1078.length co12, .int .i64 t1081, .bool t1082] (fun _ => True) (fun k_ => some k_ = (.slice Ao12 t1078.length co12 : Value).ownBlock) rfl rfl ?aP (fun k_ hk_ => ((Kd.R_mono (ok' := fun k_ => ((fun _ => True)) k_ ∧ some k_ ≠ (u5 : Value).ownBlock) (Kd.R_apart' (HO1080.out) (Kd.S_typed HO_5.out) (by decide)) (fun k_ hk => ⟨trivial, hk.2⟩))).1 k_ hk_.symm) ?aF ?aO ?aB ?aS ?aL ?_; (case aP => exact k52_mkM _ _ _ (⟨t1073, t1074, t1075, t1076, t1077, t1078, t1081, t1082⟩ : S52) (Kd.R_mono (Kd.R_tight rfl (Kd.R_mono (ok' := fun k_ => ((fun _ => True)) k_ ∧ some k_ ≠ (u5 : Value).ownBlock) (Kd.R_apart' (HO1080.out) (Kd.S_typed HO_5.out) (by decide)) (fun k_ hk => ⟨trivial, hk.2⟩))) (fun _ h_ => h_))); (case aB => exact (by repeat (first | (with_reducible first | exact HB.out | apply below_alloc | apply pw_below_drewN | apply below_drew1) | exact HB.out))); (case aF => exact (fun _ _ => trivial)); (case aO => exact (by (with_reducible repeat (first | apply Kd.S_alloc | apply Kd.S_drewN | apply Kd.S_drew)); exact Kd.S_mono HO_5.out (fun k_ hk => ⟨trivial, fun e_ => hk.2 e_⟩))); (case aS => exact (below_size (by repeat (first | (with_reducible first | exact HB.out | apply below_alloc | apply pw_below_drewN | apply below_drew1) | exact HB.out)))); (case aL => have := LMc9.out; omega); intro v1084 w11 ho hb hg hat; rw [← Ny1083.out] at ho; have n0_ := Aside0.mk (hb); have n1_ := Aside0.mk (ho); clear HB; clear HO_5; clear HO1080; have HB := n0_; have HO1085 := n1_; clear n0_ n1_; clear ho hb hg hat))
              go_roundg k1
              case measure => have := HK1.out; omega
              case rel => exact ⟨(y1083), (wrap64 (x6_1 + 1)), (by first | rfl | (simp; done) | (simp [*]; done)), H', ⟨by have := HK1.out; omega⟩, ⟨by (with_reducible repeat (first | apply Kd.S_alloc | apply Kd.S_drewN | apply Kd.S_drew)); exact HO1085.out⟩, ⟨by repeat (first | (with_reducible first | exact HB.out | apply below_alloc | apply pw_below_drewN | apply below_drew1) | exact HB.out)⟩⟩
            · rw [if_neg c9] at H
              exact absurd H (by simp)
          · rw [if_neg c7] at H
            have c7b0 : (((rd_T52 l0 x6_1).f0) == a1) = false := beq_eq_false_iff_ne.mpr c7
            have c7b1 : (((rd_T52 l0 x6_1).f0) != a1) = true := bne_iff_ne.mpr c7
            by_cases c13 : ((rd_T52 l0 x6_1).f0) = 9
            · rw [if_pos c13] at H
              have c13b0 : (((rd_T52 l0 x6_1).f0) == 9) = true := beq_iff_eq.mpr c13
              have c13b1 : (((rd_T52 l0 x6_1).f0) != 9) = false := bne_eq_false_iff_eq.mpr c13
              clear c13
              replace H := Option.bind_eq_some_iff.mp H
              obtain ⟨⟨t1088, t1089, t1090, t1091, t1092, t1093, t1096, t1097⟩, A140, H⟩ := H
              replace H : (if x5_1.length < 1759218604441 then (spec_Scope.l0 k1 l0 a1 (x5_1 ++ [(⟨t1088, t1089, t1090, t1091, t1092, t1093, t1096, t1097⟩ : S52)]) (wrap64 (x6_1 + 1))) else (none)) = some r := H
              have A14 := Aside0.mk A140
              clear A140
              by_cases c15 : x5_1.length < 1759218604441
              · rw [if_pos c15] at H
                have LMc15 := Aside0.mk c15
                clear c15
                obtain ⟨y1098, hy1098⟩ : ∃ y_ : List (S52), y_ = (x5_1 ++ [(⟨t1088, t1089, t1090, t1091, t1092, t1093, t1096, t1097⟩ : S52)]) := ⟨_, rfl⟩
                replace H : (spec_Scope.l0 k1 l0 a1 y1098 (wrap64 (x6_1 + 1))) = some r := by first | (rw [hy1098]; with_reducible exact H) | (have H2_ := (Option.bind_some _ _).symm.trans H; rw [hy1098]; with_reducible exact H2_) | (have H2_ := (Option.bind_some _ _).symm.trans H; with_reducible exact H2_) | with_reducible exact H | (rw [hy1098]; exact H) | exact H
                have Ny1098 := Aside0.mk hy1098
                clear hy1098
                have H' := Aside0.mk H
                clear H
                have p1071 : 0 ≤ (x6_1 : Int) := of_decide_eq_true (by first | (with_reducible assumption) | assumption)
                have q1071 : x6_1 < (l0.length : Int) := of_decide_eq_true (by first | (with_reducible assumption) | assumption)
                obtain ⟨ad1071, A1071_5, c1071_5, e1071, hx1071_0, hx1071_1, hx1071_2, hx1071_3, hx1071_4, hx1071_5, hx1071_6, hx1071_7, hl1071_5, hi1071_5⟩ := at_T52 HR0.out x6_1 p1071 q1071
                cases e1071
                replace hx1071_0 := (HB.out.cell (World.block_lt_of_cell? w _ hx1071_0)).trans hx1071_0
                replace hx1071_1 := (HB.out.cell (World.block_lt_of_cell? w _ hx1071_1)).trans hx1071_1
                replace hx1071_2 := (HB.out.cell (World.block_lt_of_cell? w _ hx1071_2)).trans hx1071_2
                replace hx1071_3 := (HB.out.cell (World.block_lt_of_cell? w _ hx1071_3)).trans hx1071_3
                replace hx1071_4 := (HB.out.cell (World.block_lt_of_cell? w _ hx1071_4)).trans hx1071_4
                replace hx1071_5 := (HB.out.cell (World.block_lt_of_cell? w _ hx1071_5)).trans hx1071_5
                replace hx1071_6 := (HB.out.cell (World.block_lt_of_cell? w _ hx1071_6)).trans hx1071_6
                replace hx1071_7 := (HB.out.cell (World.block_lt_of_cell? w _ hx1071_7)).trans hx1071_7
                have HR1071_5 := Aside0.mk hi1071_5
                have HC1071_5 := Aside0.mk hl1071_5
                clear hi1071_5 hl1071_5
                replace p1071 := eq_true p1071
                replace q1071 := eq_true q1071
                have p1086 : 0 ≤ (x6_1 : Int) := of_decide_eq_true (by first | (with_reducible assumption) | assumption)
                have q1086 : x6_1 < (l0.length : Int) := of_decide_eq_true (by first | (with_reducible assumption) | assumption)
                obtain ⟨ad1086, A1086_5, c1086_5, e1086, hx1086_0, hx1086_1, hx1086_2, hx1086_3, hx1086_4, hx1086_5, hx1086_6, hx1086_7, hl1086_5, hi1086_5⟩ := at_T52 HR0.out x6_1 p1086 q1086
                obtain rfl : ad1071 = ad1086 := (by injection e1086)
                replace hx1086_0 := (HB.out.cell (World.block_lt_of_cell? w _ hx1086_0)).trans hx1086_0
                replace hx1086_1 := (HB.out.cell (World.block_lt_of_cell? w _ hx1086_1)).trans hx1086_1
                replace hx1086_2 := (HB.out.cell (World.block_lt_of_cell? w _ hx1086_2)).trans hx1086_2
                replace hx1086_3 := (HB.out.cell (World.block_lt_of_cell? w _ hx1086_3)).trans hx1086_3
                replace hx1086_4 := (HB.out.cell (World.block_lt_of_cell? w _ hx1086_4)).trans hx1086_4
                replace hx1086_5 := (HB.out.cell (World.block_lt_of_cell? w _ hx1086_5)).trans hx1086_5
                replace hx1086_6 := (HB.out.cell (World.block_lt_of_cell? w _ hx1086_6)).trans hx1086_6
                replace hx1086_7 := (HB.out.cell (World.block_lt_of_cell? w _ hx1086_7)).trans hx1086_7
                have HR1086_5 := Aside0.mk hi1086_5
                have HC1086_5 := Aside0.mk hl1086_5
                clear hi1086_5 hl1086_5
                replace p1086 := eq_true p1086
                replace q1086 := eq_true q1086
                have ea_ := Option.some.inj (hx1071_5.symm.trans hx1086_5)
                injection ea_ with ea_ en_ ec_
                subst ea_
                subst ec_
                clear en_
                have p1087 : 0 ≤ (x6_1 : Int) := of_decide_eq_true (by first | (with_reducible assumption) | assumption)
                have q1087 : x6_1 < (l0.length : Int) := of_decide_eq_true (by first | (with_reducible assumption) | assumption)
                obtain ⟨ad1087, A1087_5, c1087_5, e1087, hx1087_0, hx1087_1, hx1087_2, hx1087_3, hx1087_4, hx1087_5, hx1087_6, hx1087_7, hl1087_5, hi1087_5⟩ := at_T52 HR0.out x6_1 p1087 q1087
                obtain rfl : ad1071 = ad1087 := (by injection e1087)
                replace hx1087_0 := (HB.out.cell (World.block_lt_of_cell? w _ hx1087_0)).trans hx1087_0
                replace hx1087_1 := (HB.out.cell (World.block_lt_of_cell? w _ hx1087_1)).trans hx1087_1
                replace hx1087_2 := (HB.out.cell (World.block_lt_of_cell? w _ hx1087_2)).trans hx1087_2
                replace hx1087_3 := (HB.out.cell (World.block_lt_of_cell? w _ hx1087_3)).trans hx1087_3
                replace hx1087_4 := (HB.out.cell (World.block_lt_of_cell? w _ hx1087_4)).trans hx1087_4
                replace hx1087_5 := (HB.out.cell (World.block_lt_of_cell? w _ hx1087_5)).trans hx1087_5
                replace hx1087_6 := (HB.out.cell (World.block_lt_of_cell? w _ hx1087_6)).trans hx1087_6
                replace hx1087_7 := (HB.out.cell (World.block_lt_of_cell? w _ hx1087_7)).trans hx1087_7
                have HR1087_5 := Aside0.mk hi1087_5
                have HC1087_5 := Aside0.mk hl1087_5
                clear hi1087_5 hl1087_5
                replace p1087 := eq_true p1087
                replace q1087 := eq_true q1087
                have ea_ := Option.some.inj (hx1071_5.symm.trans hx1087_5)
                injection ea_ with ea_ en_ ec_
                subst ea_
                subst ec_
                clear en_
                go_wp2_with (first | ((with_reducible refine gate_callee (f := 97) rfl ?_); refine goesL_ (some 34) rfl rfl Try.func97 (by kernel_rfl) rfl #[.agg #[.int .i64 ((rd_T52 l0 x6_1).f0), .int .i64 ((rd_T52 l0 x6_1).f1), .int .i64 ((rd_T52 l0 x6_1).f2), .int .i64 ((rd_T52 l0 x6_1).f3), .int .i64 ((rd_T52 l0 x6_1).f4), .slice A1071_5 ((rd_T52 l0 x6_1).f5).length c1071_5, .int .i64 ((rd_T52 l0 x6_1).f6), .bool ((rd_T52 l0 x6_1).f7)]] rfl (by (try simp only [List.map_toArray, List.map_cons, List.map_nil]); first | done | rfl | (simp only [List.length_drop, List.length_take]; rfl)) ?_; (with_reducible refine (spec_l04Copy.calls ((rd_T52 l0 x6_1).f0) ((rd_T52 l0 x6_1).f1) ((rd_T52 l0 x6_1).f2) ((rd_T52 l0 x6_1).f3) ((rd_T52 l0 x6_1).f4) _ _ ((rd_T52 l0 x6_1).f5) ((rd_T52 l0 x6_1).f6) ((rd_T52 l0 x6_1).f7) t1088 t1089 t1090 t1091 t1092 t1093 t1096 t1097 _ ?side1 ?side2 A14.out).mono ?_); (case side1 => repeat (first | exact (Kd.C_below HR1087_5.out HB.out) | (with_reducible refine Kd.C_alloc ?_ _) | (with_reducible refine Kd.C_drewN ?_ _) | (with_reducible refine Kd.C_drew ?_))); (case side2 => exact HC1087_5.out); rintro e w16 ⟨v1094, rfl, ho0, hb⟩; refine ⟨_, rfl, ?_⟩; have hs_v1094 : (v1094 : Value).oneCell' = true := (by first | (obtain ⟨A_, c_, e_⟩ := Kd.R_slice ho0; simp [e_, Value.oneCell']) | (obtain ⟨A_, c_, e_⟩ := Kd.S_slice ho0; simp [e_, Value.oneCell']) | (obtain ⟨A_, c_, e_⟩ := Kd.N_slice ho0; simp [e_, Value.oneCell']) | (obtain ⟨A_, c_, e_⟩ := Kd.V_slice ho0; simp [e_, Value.oneCell'])); have hst_v1094 := fun (w_ : World) (a_ : Addr) m_ => run_store Try.prog w_ a_ v1094 m_ hs_v1094; have n0_ := Aside0.mk (Kd.S_elder' (by (with_reducible repeat (first | apply Kd.S_alloc | apply Kd.S_drewN | apply Kd.S_drew)); exact HO_5.out) (Kd.R_base ho0) hb); have n1_ := Aside0.mk (Kd.R_lower ho0 (below_size (by repeat (first | (with_reducible first | exact HB.out | apply below_alloc | apply pw_below_drewN | apply below_drew1) | exact HB.out)))); have n2_ := Aside0.mk (below_step (by repeat (first | (with_reducible first | exact HB.out | apply below_alloc | apply pw_below_drewN | apply below_drew1) | exact HB.out)) hb); clear HO_5; clear HB; have HO_5 := n0_; have HO1095 := n1_; have HB := n2_; clear n0_ n1_ n2_; (try clear hb); (try clear hb2); (try clear hk); (try clear hi); (try clear ho0); obtain ⟨Ao18, co18, eo18⟩ := Kd.R_slice HO1095.out; subst eo18) | ((with_reducible refine gate_builtin (b := .append) (xs := #[.tmp 29, .tmp 35]) rfl ?_); at_builtin; refine Kd.S_append k52 (w0 := w) w.heap.size rfl (.tmp 29) (.tmp 35) 38 52 (.agg #[(.int .i64 0), (.int .i64 0), (.int .i64 0), (.int .i64 0), (.int .i64 0), (.slice none 0 0), (.int .i64 0), (.bool false)]) 80 rfl Try.underlying38 info52 rfl (by decide) (by omega) u5 x5_1 (⟨t1088, t1089, t1090, t1091, t1092, t1093, t1096, t1097⟩ : S52) [.int .i64 t1088, .int .i64 t1089, .int .i64 t1090, .int .i64 t1091, .int .i64 t1092, .slice Ao18 t1093.length co18, .int .i64 t1096, .bool t1097] (fun _ => True) (fun k_ => some k_ = (.slice Ao18 t1093.length co18 : Value).ownBlock) rfl rfl ?aP (fun k_ hk_ => ((Kd.R_mono (ok' := fun k_ => ((fun _ => True)) k_ ∧ some k_ ≠ (u5 : Value).ownBlock) (Kd.R_apart' (HO1095.out) (Kd.S_typed HO_5.out) (by decide)) (fun k_ hk => ⟨trivial, hk.2⟩))).1 k_ hk_.symm) ?aF ?aO ?aB ?aS ?aL ?_; (case aP => exact k52_mkM _ _ _ (⟨t1088, t1089, t1090, t1091, t1092, t1093, t1096, t1097⟩ : S52) (Kd.R_mono (Kd.R_tight rfl (Kd.R_mono (ok' := fun k_ => ((fun _ => True)) k_ ∧ some k_ ≠ (u5 : Value).ownBlock) (Kd.R_apart' (HO1095.out) (Kd.S_typed HO_5.out) (by decide)) (fun k_ hk => ⟨trivial, hk.2⟩))) (fun _ h_ => h_))); (case aB => exact (by repeat (first | (with_reducible first | exact HB.out | apply below_alloc | apply pw_below_drewN | apply below_drew1) | exact HB.out))); (case aF => exact (fun _ _ => trivial)); (case aO => exact (by (with_reducible repeat (first | apply Kd.S_alloc | apply Kd.S_drewN | apply Kd.S_drew)); exact Kd.S_mono HO_5.out (fun k_ hk => ⟨trivial, fun e_ => hk.2 e_⟩))); (case aS => exact (below_size (by repeat (first | (with_reducible first | exact HB.out | apply below_alloc | apply pw_below_drewN | apply below_drew1) | exact HB.out)))); (case aL => have := LMc15.out; omega); intro v1099 w17 ho hb hg hat; rw [← Ny1098.out] at ho; have n0_ := Aside0.mk (hb); have n1_ := Aside0.mk (ho); clear HB; clear HO_5; clear HO1095; have HB := n0_; have HO1100 := n1_; clear n0_ n1_; clear ho hb hg hat))
                go_roundg k1
                case measure => have := HK1.out; omega
                case rel => exact ⟨(y1098), (wrap64 (x6_1 + 1)), (by first | rfl | (simp; done) | (simp [*]; done)), H', ⟨by have := HK1.out; omega⟩, ⟨by (with_reducible repeat (first | apply Kd.S_alloc | apply Kd.S_drewN | apply Kd.S_drew)); exact HO1100.out⟩, ⟨by repeat (first | (with_reducible first | exact HB.out | apply below_alloc | apply pw_below_drewN | apply below_drew1) | exact HB.out)⟩⟩
              · rw [if_neg c15] at H
                exact absurd H (by simp)
            · rw [if_neg c13] at H
              have c13b0 : (((rd_T52 l0 x6_1).f0) == 9) = false := beq_eq_false_iff_ne.mpr c13
              have c13b1 : (((rd_T52 l0 x6_1).f0) != 9) = true := bne_iff_ne.mpr c13
              have H' := Aside0.mk H
              clear H
              have p1071 : 0 ≤ (x6_1 : Int) := of_decide_eq_true (by first | (with_reducible assumption) | assumption)
              have q1071 : x6_1 < (l0.length : Int) := of_decide_eq_true (by first | (with_reducible assumption) | assumption)
              obtain ⟨ad1071, A1071_5, c1071_5, e1071, hx1071_0, hx1071_1, hx1071_2, hx1071_3, hx1071_4, hx1071_5, hx1071_6, hx1071_7, hl1071_5, hi1071_5⟩ := at_T52 HR0.out x6_1 p1071 q1071
              cases e1071
              replace hx1071_0 := (HB.out.cell (World.block_lt_of_cell? w _ hx1071_0)).trans hx1071_0
              replace hx1071_1 := (HB.out.cell (World.block_lt_of_cell? w _ hx1071_1)).trans hx1071_1
              replace hx1071_2 := (HB.out.cell (World.block_lt_of_cell? w _ hx1071_2)).trans hx1071_2
              replace hx1071_3 := (HB.out.cell (World.block_lt_of_cell? w _ hx1071_3)).trans hx1071_3
              replace hx1071_4 := (HB.out.cell (World.block_lt_of_cell? w _ hx1071_4)).trans hx1071_4
              replace hx1071_5 := (HB.out.cell (World.block_lt_of_cell? w _ hx1071_5)).trans hx1071_5
              replace hx1071_6 := (HB.out.cell (World.block_lt_of_cell? w _ hx1071_6)).trans hx1071_6
              replace hx1071_7 := (HB.out.cell (World.block_lt_of_cell? w _ hx1071_7)).trans hx1071_7
              have HR1071_5 := Aside0.mk hi1071_5
              have HC1071_5 := Aside0.mk hl1071_5
              clear hi1071_5 hl1071_5
              replace p1071 := eq_true p1071
              replace q1071 := eq_true q1071
              have p1086 : 0 ≤ (x6_1 : Int) := of_decide_eq_true (by first | (with_reducible assumption) | assumption)
              have q1086 : x6_1 < (l0.length : Int) := of_decide_eq_true (by first | (with_reducible assumption) | assumption)
              obtain ⟨ad1086, A1086_5, c1086_5, e1086, hx1086_0, hx1086_1, hx1086_2, hx1086_3, hx1086_4, hx1086_5, hx1086_6, hx1086_7, hl1086_5, hi1086_5⟩ := at_T52 HR0.out x6_1 p1086 q1086
              obtain rfl : ad1071 = ad1086 := (by injection e1086)
              replace hx1086_0 := (HB.out.cell (World.block_lt_of_cell? w _ hx1086_0)).trans hx1086_0
              replace hx1086_1 := (HB.out.cell (World.block_lt_of_cell? w _ hx1086_1)).trans hx1086_1
              replace hx1086_2 := (HB.out.cell (World.block_lt_of_cell? w _ hx1086_2)).trans hx1086_2
              replace hx1086_3 := (HB.out.cell (World.block_lt_of_cell? w _ hx1086_3)).trans hx1086_3
              replace hx1086_4 := (HB.out.cell (World.block_lt_of_cell? w _ hx1086_4)).trans hx1086_4
              replace hx1086_5 := (HB.out.cell (World.block_lt_of_cell? w _ hx1086_5)).trans hx1086_5
              replace hx1086_6 := (HB.out.cell (World.block_lt_of_cell? w _ hx1086_6)).trans hx1086_6
              replace hx1086_7 := (HB.out.cell (World.block_lt_of_cell? w _ hx1086_7)).trans hx1086_7
              have HR1086_5 := Aside0.mk hi1086_5
              have HC1086_5 := Aside0.mk hl1086_5
              clear hi1086_5 hl1086_5
              replace p1086 := eq_true p1086
              replace q1086 := eq_true q1086
              have ea_ := Option.some.inj (hx1071_5.symm.trans hx1086_5)
              injection ea_ with ea_ en_ ec_
              subst ea_
              subst ec_
              clear en_
              go_wp2
              go_roundg k1
              case measure => have := HK1.out; omega
              case rel => exact ⟨(x5_1), (wrap64 (x6_1 + 1)), (by first | rfl | (simp; done) | (simp [*]; done)), H', ⟨by have := HK1.out; omega⟩, ⟨by (with_reducible repeat (first | apply Kd.S_alloc | apply Kd.S_drewN | apply Kd.S_drew)); exact HO_5.out⟩, ⟨by repeat (first | (with_reducible first | exact HB.out | apply below_alloc | apply pw_below_drewN | apply below_drew1) | exact HB.out)⟩⟩
        · rw [if_neg c6] at H
          exact absurd H (by simp)
      · rw [if_neg c5] at H
        have c5b0 : decide (x6_1 < (l0.length : Int)) = false := decide_eq_false c5
        clear c5
        obtain rfl := Option.some.inj H
        go_wp2
        go_ret
        exact ⟨_, by first | rfl | (simp [errW_none, errW_some] <;> rfl) | (simp [*, errW_none, errW_some] <;> rfl), by (with_reducible repeat (first | apply Kd.S_alloc | apply Kd.S_drewN | apply Kd.S_drew)); exact HO_5.out, by repeat (first | (with_reducible first | exact HB.out | apply below_alloc | apply pw_below_drewN | apply below_drew1) | exact HB.out)⟩

end Go.Proofs.Ytjkjhaiemephdab.Q
