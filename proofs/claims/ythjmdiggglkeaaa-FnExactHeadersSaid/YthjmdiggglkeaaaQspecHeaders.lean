/- A Go function as a Lean function, and its contract: for every input the Go code comes to what the Lean function tells. -/
import Derived.Test.YthjmdiggglkeaaaQk
import Derived.Test.YthjmdiggglkeaaaQspecScope
import Derived.Test.YthjmdiggglkeaaaQspecl09Head
namespace Go.Proofs.Ythjmdiggglkeaaa.Q
open Go.RowKit Go.Proofs.YthjmdiggglkeaaaW.PrintWords Go.Proofs.YthjmdiggglkeaaaW.PrintLast Go.Proofs.YthjmdiggglkeaaaW.PrintMore
attribute [local go_sem] max2_int min2_int max_two min_two max_three min_three max_four min_four   -- for this text's walks alone
set_option linter.unusedVariables false
set_option linter.unusedSimpArgs false

/-! ### spec_Headers: function 45 -/
def spec_Headers.l0 : Nat → List (S61) → Int → Option ((List (S61)))
  | 0, _, _ => none
  | k + 1, x5, x6 => if x6 < (x5.length : Int) then (if 0 ≤ x6 then ((spec_l09Head.f ((rd_T61 x5 x6).f0) ((rd_T61 x5 x6).f1) ((rd_T61 x5 x6).f2) ((rd_T61 x5 x6).f3) ((rd_T61 x5 x6).f4) ((rd_T61 x5 x6).f5) ((rd_T61 x5 x6).f6) ((rd_T61 x5 x6).f7)).bind fun bt1141 => (spec_Headers.l0 k (x5.set (x6 : Int).toNat (⟨bt1141.1, bt1141.2.1, bt1141.2.2.1, bt1141.2.2.2.1, bt1141.2.2.2.2.1, bt1141.2.2.2.2.2.1, bt1141.2.2.2.2.2.2.1, bt1141.2.2.2.2.2.2.2⟩ : S61)) (wrap64 (x6 + 1)))) else (none)) else (some x5)
def spec_Headers.f (k : Nat) (l0 : List (S61)) (a1 : Int) : Option ((List (S61))) := (spec_Scope.f k l0 a1).bind fun t1137 => (spec_Headers.l0 k t1137 0)
theorem spec_Headers.mono_l : ∀ k, (∀ y0 y1, LeO (spec_Headers.l0 k y0 y1) (spec_Headers.l0 (k + 1) y0 y1))
  | 0 => fun _ _ r h => by simp [spec_Headers.l0] at h
  | k + 1 => by
    have ih0 := spec_Headers.mono_l k
    · intro y0 y1
      unfold spec_Headers.l0
      repeat' first
      | (with_reducible exact ih0 _ _)
      | (with_reducible exact spec_Scope.mono _ _ _)
      | (with_reducible exact LeO.refl _)
      | (with_reducible exact LeO.none _)
      | (with_reducible refine LeO.ite ?_ ?_)
      | (with_reducible refine LeO.bind ?_ (fun _ => ?_))
      | exact ih0 _ _
      | exact spec_Scope.mono _ _ _
      | exact LeO.none _
      | refine LeO.ite ?_ ?_
      | refine LeO.bind ?_ (fun _ => ?_)
theorem spec_Headers.mono : ∀ a0 a1 k, LeO (spec_Headers.f k a0 a1) (spec_Headers.f (k + 1) a0 a1) := by
  intro a0 a1 k
  have ih0 := spec_Headers.mono_l k
  unfold spec_Headers.f
  repeat' first
      | (with_reducible exact ih0 _ _)
      | (with_reducible exact spec_Scope.mono _ _ _)
      | (with_reducible exact LeO.refl _)
      | (with_reducible exact LeO.none _)
      | (with_reducible refine LeO.ite ?_ ?_)
      | (with_reducible refine LeO.bind ?_ (fun _ => ?_))
      | exact ih0 _ _
      | exact spec_Scope.mono _ _ _
      | exact LeO.none _
      | refine LeO.ite ?_ ?_
      | refine LeO.bind ?_ (fun _ => ?_)
set_option maxHeartbeats 8000000 in
set_option maxRecDepth 100000 in
theorem spec_Headers.calls (k : Nat) (A0 : Option Addr) (c0 : Nat) (l0 : List (S61)) (a1 : Int) (r : List (S61)) (w : World) (hr0 : Kd.C k61 w A0 l0.length l0) (hc0 : l0.length ≤ c0) (h : spec_Headers.f k l0 a1 = some r) :
    Calls Try.prog 45 #[.slice A0 l0.length c0, .int .i64 a1] w fun e w' => ∃ v0_ : Value, e = .returned (v0_) ∧ Kd.S k61 61 w' w.heap.size (fun _ => True) v0_ r ∧ Below w.heap.size w w' := by
  have hu61 := Try.underlying61
  have HR0 := Aside0.mk hr0
  have HC0 := Aside0.mk hc0
  clear hr0 hc0
  have HB := Aside0.mk (Below.refl w.heap.size w)
  have H : ((spec_Scope.f k l0 a1).bind fun t1137 => (spec_Headers.l0 k t1137 0)) = some r := h
  clear h
  replace H := Option.bind_eq_some_iff.mp H
  obtain ⟨t1137, A30, H⟩ := H
  replace H : (spec_Headers.l0 k t1137 0) = some r := H
  have A3 := Aside0.mk A30
  clear A30
  have H' := Aside0.mk H
  clear H
  go_enter Try.func45, Try.ntmps45
  go_wp2_with (first | ((with_reducible refine gate_callee (f := 57) rfl ?_); refine goesL_ (some 9) rfl rfl Try.func57 (by kernel_rfl) rfl #[.slice A0 l0.length c0, .int .i64 a1] rfl (by (try simp only [List.map_toArray, List.map_cons, List.map_nil]); first | done | rfl | (simp only [List.length_drop, List.length_take]; rfl)) ?_; (with_reducible refine (spec_Scope.calls k _ _ l0 a1 t1137 _ ?side1 ?side2 A3.out).mono ?_); (case side1 => repeat (first | exact HR0.out | (with_reducible refine Kd.C_alloc ?_ _) | (with_reducible refine Kd.C_drewN ?_ _) | (with_reducible refine Kd.C_drew ?_))); (case side2 => exact HC0.out); rintro e w4 ⟨v1138, rfl, ho0, hb⟩; refine ⟨_, rfl, ?_⟩; have n0_ := Aside0.mk (Kd.S_lower ho0 (below_size (by repeat (first | (with_reducible first | exact HB.out | apply below_alloc | apply pw_below_drewN | apply below_drew1) | exact HB.out)))); have n1_ := Aside0.mk (below_step (by repeat (first | (with_reducible first | exact HB.out | apply below_alloc | apply pw_below_drewN | apply below_drew1) | exact HB.out)) hb); clear HB; have HO1139 := n0_; have HB := n1_; clear n0_ n1_; (try clear hb); (try clear hb2); (try clear hk); (try clear hi); (try clear ho0)))
  go_loopg [6] k (fun kq v6 w' => ∃ (x5_1 : List (S61)) (x6_1 : Int), v6 = .int .i64 x6_1 ∧ Aside0 (spec_Headers.l0 kq x5_1 x6_1 = some r) ∧ Aside0 (kq ≤ k) ∧ Aside0 (Kd.S k61 61 w' w.heap.size (fun _ => True) v1138 x5_1) ∧ Aside0 (Below w.heap.size w w'))
  case atStart => exact ⟨(t1137), (0), (by first | rfl | (simp; done) | (simp [*]; done)), H', ⟨Nat.le_refl _⟩, ⟨by (with_reducible repeat (first | apply Kd.S_alloc | apply Kd.S_drewN | apply Kd.S_drew)); exact HO1139.out⟩, ⟨by repeat (first | (with_reducible first | exact HB.out | apply below_alloc | apply pw_below_drewN | apply below_drew1) | exact HB.out)⟩⟩
  case round =>
    clear H'
    try clear p2
    try clear c4
    obtain ⟨x5_1, x6_1, rfl, HA, HK1, HO_5, HB⟩ := hrel
    cases gk with
    | zero => exact absurd HA.out (by simp [spec_Headers.l0])
    | succ k1 =>
      have H := HA.out
      clear HA
      simp only [spec_Headers.l0] at H
      by_cases c5 : x6_1 < (x5_1.length : Int)
      · rw [if_pos c5] at H
        have c5b0 : decide (x6_1 < (x5_1.length : Int)) = true := decide_eq_true c5
        clear c5
        by_cases c6 : 0 ≤ x6_1
        · rw [if_pos c6] at H
          have c6b0 : decide (0 ≤ x6_1) = true := decide_eq_true c6
          clear c6
          replace H := Option.bind_eq_some_iff.mp H
          obtain ⟨⟨t1141, t1142, t1143, t1144, t1145, t1146, t1149, t1150⟩, A70, H⟩ := H
          replace H : (spec_Headers.l0 k1 (x5_1.set (x6_1 : Int).toNat (⟨t1141, t1142, t1143, t1144, t1145, t1146, t1149, t1150⟩ : S61)) (wrap64 (x6_1 + 1))) = some r := H
          have A7 := Aside0.mk A70
          clear A70
          obtain ⟨y1151, hy1151⟩ : ∃ y_ : List (S61), y_ = (x5_1.set (x6_1 : Int).toNat (⟨t1141, t1142, t1143, t1144, t1145, t1146, t1149, t1150⟩ : S61)) := ⟨_, rfl⟩
          replace H : (spec_Headers.l0 k1 y1151 (wrap64 (x6_1 + 1))) = some r := by first | (rw [hy1151]; with_reducible exact H) | (have H2_ := (Option.bind_some _ _).symm.trans H; rw [hy1151]; with_reducible exact H2_) | (have H2_ := (Option.bind_some _ _).symm.trans H; with_reducible exact H2_) | with_reducible exact H | (rw [hy1151]; exact H) | exact H
          have Ny1151 := Aside0.mk hy1151
          clear hy1151
          have H' := Aside0.mk H
          clear H
          obtain ⟨Ao9, co9, eo9⟩ := Kd.S_slice HO_5.out
          subst eo9
          have p1140 : 0 ≤ (x6_1 : Int) := of_decide_eq_true (by first | (with_reducible assumption) | assumption)
          have q1140 : x6_1 < (x5_1.length : Int) := of_decide_eq_true (by first | (with_reducible assumption) | assumption)
          obtain ⟨ad1140, A1140_5, c1140_5, e1140, hx1140_0, hx1140_1, hx1140_2, hx1140_3, hx1140_4, hx1140_5, hx1140_6, hx1140_7, hl1140_5, hi1140_5⟩ := at_T61 (Kd.S_reads' HO_5.out).2.2 x6_1 p1140 q1140
          cases e1140
          obtain ⟨ce1140, hce1140, hMe1140, hcc1140⟩ := Kd.S_get HO_5.out z61 x6_1 p1140 (by first | exact q1140 | exact of_decide_eq_true (by first | (with_reducible assumption) | assumption) | (have e_ := (Kd.S_reads' HO_5.out).1; omega))
          obtain ⟨ve1140_5, rfl, ge1140_5⟩ := k61_openM hMe1140
          have hv1140_5 := hcc1140 5 _ rfl
          rw [add_field _ _ 5 (by omega)] at hv1140_5
          replace hv1140_5 := Option.some.inj (hv1140_5.symm.trans hx1140_5)
          rw [hv1140_5] at ge1140_5
          have HL1140_5 := Aside0.mk (show Kd.R k127 127 _ _ _ _ ((rd_T61 x5_1 x6_1).f5) from ge1140_5)
          clear hv1140_5 ge1140_5
          clear hcc1140 hce1140
          have HR1140_5 := Aside0.mk hi1140_5
          have HC1140_5 := Aside0.mk hl1140_5
          clear hi1140_5 hl1140_5
          replace p1140 := eq_true p1140
          replace q1140 := eq_true q1140
          go_wp2_with (first | ((with_reducible refine gate_callee (f := 112) rfl ?_); refine goesL_ (some 22) rfl rfl Try.func112 (by kernel_rfl) rfl #[.agg #[.int .i64 ((rd_T61 x5_1 x6_1).f0), .int .i64 ((rd_T61 x5_1 x6_1).f1), .int .i64 ((rd_T61 x5_1 x6_1).f2), .int .i64 ((rd_T61 x5_1 x6_1).f3), .int .i64 ((rd_T61 x5_1 x6_1).f4), .slice A1140_5 ((rd_T61 x5_1 x6_1).f5).length c1140_5, .int .i64 ((rd_T61 x5_1 x6_1).f6), .bool ((rd_T61 x5_1 x6_1).f7)]] rfl (by (try simp only [List.map_toArray, List.map_cons, List.map_nil]); first | done | rfl | (simp only [List.length_drop, List.length_take]; rfl)) ?_; (with_reducible refine (spec_l09Head.calls ((rd_T61 x5_1 x6_1).f0) ((rd_T61 x5_1 x6_1).f1) ((rd_T61 x5_1 x6_1).f2) ((rd_T61 x5_1 x6_1).f3) ((rd_T61 x5_1 x6_1).f4) _ _ ((rd_T61 x5_1 x6_1).f5) ((rd_T61 x5_1 x6_1).f6) ((rd_T61 x5_1 x6_1).f7) t1141 t1142 t1143 t1144 t1145 t1146 t1149 t1150 _ ?side1 ?side2 A7.out).mono ?_); (case side1 => repeat (first | exact (by repeat (first | (with_reducible exact HR1140_5.out) | (with_reducible refine Kd.C_alloc ?_ _) | (with_reducible refine Kd.C_drewN ?_ _) | (with_reducible refine Kd.C_drew ?_) | exact HR1140_5.out)) | (with_reducible refine Kd.C_alloc ?_ _) | (with_reducible refine Kd.C_drewN ?_ _) | (with_reducible refine Kd.C_drew ?_))); (case side2 => exact HC1140_5.out); rintro e w10 ⟨v1147, rfl, ho0, hb⟩; refine ⟨_, rfl, ?_⟩; have hs_v1147 : (v1147 : Value).oneCell' = true := (by first | (obtain ⟨A_, c_, e_⟩ := Kd.R_slice ho0; simp [e_, Value.oneCell']) | (obtain ⟨A_, c_, e_⟩ := Kd.S_slice ho0; simp [e_, Value.oneCell']) | (obtain ⟨A_, c_, e_⟩ := Kd.N_slice ho0; simp [e_, Value.oneCell']) | (obtain ⟨A_, c_, e_⟩ := Kd.V_slice ho0; simp [e_, Value.oneCell'])); have hst_v1147 := fun (w_ : World) (a_ : Addr) m_ => run_store Try.prog w_ a_ v1147 m_ hs_v1147; have n0_ := Aside0.mk (Kd.S_elder' (by (with_reducible repeat (first | apply Kd.S_alloc | apply Kd.S_drewN | apply Kd.S_drew)); exact HO_5.out) (Kd.R_base ho0) hb); have n1_ := Aside0.mk (Kd.R_elder' (by (with_reducible repeat (first | apply Kd.R_alloc | apply Kd.R_drewN | apply Kd.R_drew)); exact HL1140_5.out) (Kd.R_base ho0) hb); have n2_ := Aside0.mk (Kd.R_lower (Kd.R_new' ho0 (Kd.R_lt (by (with_reducible repeat (first | apply Kd.R_alloc | apply Kd.R_drewN | apply Kd.R_drew)); exact HL1140_5.out))) (below_size (by repeat (first | (with_reducible first | exact HB.out | apply below_alloc | apply pw_below_drewN | apply below_drew1) | exact HB.out)))); have n3_ := Aside0.mk (Kd.C_below (by repeat (first | (with_reducible exact HR1140_5.out) | (with_reducible refine Kd.C_alloc ?_ _) | (with_reducible refine Kd.C_drewN ?_ _) | (with_reducible refine Kd.C_drew ?_) | exact HR1140_5.out)) hb); have n4_ := Aside0.mk (below_step (by repeat (first | (with_reducible first | exact HB.out | apply below_alloc | apply pw_below_drewN | apply below_drew1) | exact HB.out)) hb); clear HO_5; clear HL1140_5; clear HR1140_5; clear HB; have HO_5 := n0_; have HL1140_5 := n1_; have HO1148 := n2_; have HR1140_5 := n3_; have HB := n4_; clear n0_ n1_ n2_ n3_ n4_; (try clear hb); (try clear hb2); (try clear hk); (try clear hi); (try clear ho0); have p8 : 0 ≤ (x6_1 : Int) := of_decide_eq_true (by first | (with_reducible assumption) | assumption); have q8 : (x6_1 : Int) < ((x5_1.length : Int) : Int) := of_decide_eq_true (by first | (with_reducible assumption) | assumption); obtain ⟨go8, co8, eo8, gb8, gl8, cl8, HG8⟩ := Kd.S_form HO_5.out (by omega); (first | cases eo8 | (injection eo8 with ea_ en_ ec_; (first | subst ea_ | (injection ea_ with ea_; subst ea_)); subst ec_; clear en_)); have GB8 := Aside0.mk gb8; have GG8 := Aside0.mk HG8; clear gb8 gl8 HG8; (first | simp only [add_plain] at hx1140_0 | skip); (first | simp only [add_plain] at hx1140_1 | skip); (first | simp only [add_plain] at hx1140_2 | skip); (first | simp only [add_plain] at hx1140_3 | skip); (first | simp only [add_plain] at hx1140_4 | skip); (first | simp only [add_plain] at hx1140_5 | skip); (first | simp only [add_plain] at hx1140_6 | skip); (first | simp only [add_plain] at hx1140_7 | skip); obtain ⟨_, ce8, hcl8, hM8, hcc8, hfr8, _, _⟩ := Kd.S_elem HO_5.out z61 (x6_1 : Int) p8 q8; obtain ⟨ve8_5, rfl, ge8_5⟩ := k61_openM hM8; have hx8_0 : w10.cell? ⟨go8, (x6_1 : Int).toNat * 8, none⟩ = some (.int .i64 ((rd_T61 x5_1 x6_1).f0)) := hcc8 0 _ rfl; have hx8_1 : w10.cell? ⟨go8, (x6_1 : Int).toNat * 8 + 1, none⟩ = some (.int .i64 ((rd_T61 x5_1 x6_1).f1)) := hcc8 1 _ rfl; have hx8_2 : w10.cell? ⟨go8, (x6_1 : Int).toNat * 8 + 2, none⟩ = some (.int .i64 ((rd_T61 x5_1 x6_1).f2)) := hcc8 2 _ rfl; have hx8_3 : w10.cell? ⟨go8, (x6_1 : Int).toNat * 8 + 3, none⟩ = some (.int .i64 ((rd_T61 x5_1 x6_1).f3)) := hcc8 3 _ rfl; have hx8_4 : w10.cell? ⟨go8, (x6_1 : Int).toNat * 8 + 4, none⟩ = some (.int .i64 ((rd_T61 x5_1 x6_1).f4)) := hcc8 4 _ rfl; have hx8_5 : w10.cell? ⟨go8, (x6_1 : Int).toNat * 8 + 5, none⟩ = some (ve8_5) := hcc8 5 _ rfl; have hx8_6 : w10.cell? ⟨go8, (x6_1 : Int).toNat * 8 + 6, none⟩ = some (.int .i64 ((rd_T61 x5_1 x6_1).f6)) := hcc8 6 _ rfl; have hx8_7 : w10.cell? ⟨go8, (x6_1 : Int).toNat * 8 + 7, none⟩ = some (.bool ((rd_T61 x5_1 x6_1).f7)) := hcc8 7 _ rfl; have hf8_0 : w10.frozen? ⟨go8, (x6_1 : Int).toNat * 8, none⟩ = false := hfr8 0; have hf8_1 : w10.frozen? ⟨go8, (x6_1 : Int).toNat * 8 + 1, none⟩ = false := hfr8 1; have hf8_2 : w10.frozen? ⟨go8, (x6_1 : Int).toNat * 8 + 2, none⟩ = false := hfr8 2; have hf8_3 : w10.frozen? ⟨go8, (x6_1 : Int).toNat * 8 + 3, none⟩ = false := hfr8 3; have hf8_4 : w10.frozen? ⟨go8, (x6_1 : Int).toNat * 8 + 4, none⟩ = false := hfr8 4; have hf8_5 : w10.frozen? ⟨go8, (x6_1 : Int).toNat * 8 + 5, none⟩ = false := hfr8 5; have hf8_6 : w10.frozen? ⟨go8, (x6_1 : Int).toNat * 8 + 6, none⟩ = false := hfr8 6; have hf8_7 : w10.frozen? ⟨go8, (x6_1 : Int).toNat * 8 + 7, none⟩ = false := hfr8 7; clear hcl8 hcc8 hfr8 hM8; replace p8 := eq_true p8; replace q8 := eq_true q8; have n_ := Aside0.mk (Kd.S_mono (ok' := (fun k_ => some k_ ≠ (v1147 : Value).ownBlock)) HO_5.out (fun k_ hk => hk.2)); clear HO_5; have HO_5 := n_; clear n_; have HX11 := Aside0.mk (show Kd.S k61 61 w10 w.heap.size (fun k_ => ((fun _ => True)) k_ ∧ ¬ ((fun k_ => some k_ = (v1147 : Value).ownBlock)) k_) (.slice (some ⟨go8, 0, none⟩) x5_1.length co9) x5_1 from (by (with_reducible repeat (first | apply Kd.S_alloc | apply Kd.S_drewN | apply Kd.S_drew)); exact Kd.S_mono HO_5.out (fun k_ hk => ⟨trivial, fun e_ => hk e_⟩))); obtain ⟨oki11, ce11, hcl11, hM11, hcc11, hfr11, hoki11, hH11⟩ := Kd.S_elem HX11.out z61 (x6_1 : Int) (of_decide_eq_true (by first | (with_reducible assumption) | assumption)) (by have h_ : (x6_1 : Int) < ((x5_1.length : Int) : Int) := of_decide_eq_true (by first | (with_reducible assumption) | assumption); first | exact h_ | (have e_ := (Kd.S_reads' HO_5.out).1; omega) | simpa using h_); obtain ⟨ve11_5, rfl, ge11_5⟩ := k61_openM hM11; have HP11 := Kd.S_seg hH11 (of_decide_eq_true (by first | (with_reducible assumption) | assumption)) (by have h_ : (x6_1 : Int) < ((x5_1.length : Int) : Int) := of_decide_eq_true (by first | (with_reducible assumption) | assumption); first | exact h_ | (have e_ := (Kd.S_reads' HO_5.out).1; omega) | simpa using h_) (seg := [.int .i64 t1141, .int .i64 t1142, .int .i64 t1143, .int .i64 t1144, .int .i64 t1145, v1147, .int .i64 t1149, .bool t1150]) (j := 0) (show 8 ≤ 8 from by decide) (x' := (⟨t1141, t1142, t1143, t1144, t1145, t1146, t1149, t1150⟩ : S61)) (k61_mkM _ _ _ (⟨t1141, t1142, t1143, t1144, t1145, t1146, t1149, t1150⟩ : S61) (Kd.R_mono (Kd.R_tight rfl (Kd.R_mono (ok' := fun k_ => ((fun _ => True)) k_ ∧ k_ ≠ go8) (Kd.R_apart' (HO1148.out) (Kd.S_typed HO_5.out) (by decide)) (fun k_ hk => ⟨trivial, fun e_ => (hk.2) (by rw [e_]; rfl)⟩))) (fun _ h_ => Or.inr (h_)))) (fun _ hk => hk) (fun k_ hk_ => ((Kd.R_mono (ok' := fun k_ => ((fun _ => True)) k_ ∧ k_ ≠ go8) (Kd.R_apart' (HO1148.out) (Kd.S_typed HO_5.out) (by decide)) (fun k_ hk => ⟨trivial, fun e_ => (hk.2) (by rw [e_]; rfl)⟩))).1 k_ hk_.symm); have hx11_0 := hcc11 0 _ rfl; (try simp only [show (k61).sz = 8 from rfl, Nat.mul_one, Nat.add_zero] at hx11_0); have hf11_0 := hfr11 0; (try simp only [show (k61).sz = 8 from rfl, Nat.mul_one, Nat.add_zero] at hf11_0); have hx11_1 := hcc11 1 _ rfl; (try simp only [show (k61).sz = 8 from rfl, Nat.mul_one, Nat.add_zero] at hx11_1); have hf11_1 := hfr11 1; (try simp only [show (k61).sz = 8 from rfl, Nat.mul_one, Nat.add_zero] at hf11_1); have hx11_2 := hcc11 2 _ rfl; (try simp only [show (k61).sz = 8 from rfl, Nat.mul_one, Nat.add_zero] at hx11_2); have hf11_2 := hfr11 2; (try simp only [show (k61).sz = 8 from rfl, Nat.mul_one, Nat.add_zero] at hf11_2); have hx11_3 := hcc11 3 _ rfl; (try simp only [show (k61).sz = 8 from rfl, Nat.mul_one, Nat.add_zero] at hx11_3); have hf11_3 := hfr11 3; (try simp only [show (k61).sz = 8 from rfl, Nat.mul_one, Nat.add_zero] at hf11_3); have hx11_4 := hcc11 4 _ rfl; (try simp only [show (k61).sz = 8 from rfl, Nat.mul_one, Nat.add_zero] at hx11_4); have hf11_4 := hfr11 4; (try simp only [show (k61).sz = 8 from rfl, Nat.mul_one, Nat.add_zero] at hf11_4); have hx11_5 := hcc11 5 _ rfl; (try simp only [show (k61).sz = 8 from rfl, Nat.mul_one, Nat.add_zero] at hx11_5); have hf11_5 := hfr11 5; (try simp only [show (k61).sz = 8 from rfl, Nat.mul_one, Nat.add_zero] at hf11_5); have hx11_6 := hcc11 6 _ rfl; (try simp only [show (k61).sz = 8 from rfl, Nat.mul_one, Nat.add_zero] at hx11_6); have hf11_6 := hfr11 6; (try simp only [show (k61).sz = 8 from rfl, Nat.mul_one, Nat.add_zero] at hf11_6); have hx11_7 := hcc11 7 _ rfl; (try simp only [show (k61).sz = 8 from rfl, Nat.mul_one, Nat.add_zero] at hx11_7); have hf11_7 := hfr11 7; (try simp only [show (k61).sz = 8 from rfl, Nat.mul_one, Nat.add_zero] at hf11_7); clear hcl11 hcc11 hfr11 hM11 hoki11 hH11) | ((with_reducible refine gate_store (t := 61) (p := 23) rfl ?_); refine store_event (t := 61) (p := 23) (v := ?vo_w12) (w1 := ((((((((w10.setCell ⟨go8, (x6_1 : Int).toNat * 8, none⟩ (.int .i64 t1141)).setCell ⟨go8, (x6_1 : Int).toNat * 8 + 1, none⟩ (.int .i64 t1142)).setCell ⟨go8, (x6_1 : Int).toNat * 8 + 2, none⟩ (.int .i64 t1143)).setCell ⟨go8, (x6_1 : Int).toNat * 8 + 3, none⟩ (.int .i64 t1144)).setCell ⟨go8, (x6_1 : Int).toNat * 8 + 4, none⟩ (.int .i64 t1145)).setCell ⟨go8, (x6_1 : Int).toNat * 8 + 5, none⟩ (v1147)).setCell ⟨go8, (x6_1 : Int).toNat * 8 + 6, none⟩ (.int .i64 t1149)).setCell ⟨go8, (x6_1 : Int).toNat * 8 + 7, none⟩ (.bool t1150))) ?hg ?ho ?hn ?hr ?_; (case ho => rfl); (case hg => rfl); (case hn => rfl); (case hr => first | (go_simp; done) | (go_simp; rfl)); intro w12 hw; have hg : w10.grownBy w12 (some go8) := (by rw [hw]; exact HP11.2); have hp_ : Kd.S k61 61 w12 w.heap.size (fun _ => True) (.slice (some ⟨go8, 0, none⟩) x5_1.length co9) y1151 := (by rw [hw, Ny1151.out]; exact HP11.1); clear HP11; have n0_ := Aside0.mk (hp_); have n1_ := Aside0.mk (Kd.R_after (v := (.slice (some ⟨go8, 0, none⟩) x5_1.length co9)) (v1 := (.slice (some ⟨go8, 0, none⟩) x5_1.length co9)) (ok := (fun k_ => some k_ ≠ (v1147 : Value).ownBlock)) (by (with_reducible repeat (first | apply Kd.R_alloc | apply Kd.R_drewN | apply Kd.R_drew)); exact Kd.R_mono HL1140_5.out (fun _ hk => ⟨hk.2, hk.1.2⟩)) hg (.inl rfl)); have n2_ := Aside0.mk ((by rw [hw]; exact below_set (below_set (below_set (below_set (below_set (below_set (below_set (below_set (HB.out) GB8.out) GB8.out) GB8.out) GB8.out) GB8.out) GB8.out) GB8.out) GB8.out : Below w.heap.size w w12)); clear HO_5; clear HL1140_5; clear HB; clear HO1148; have HO_5 := n0_; have HL1140_5 := n1_; have HB := n2_; clear n0_ n1_ n2_; clear hg hw hp_))
          go_roundg k1
          case measure => have := HK1.out; omega
          case rel => exact ⟨(y1151), (wrap64 (x6_1 + 1)), (by first | rfl | (simp; done) | (simp [*]; done)), H', ⟨by have := HK1.out; omega⟩, ⟨by (with_reducible repeat (first | apply Kd.S_alloc | apply Kd.S_drewN | apply Kd.S_drew)); exact HO_5.out⟩, ⟨by repeat (first | (with_reducible first | exact HB.out | apply below_alloc | apply pw_below_drewN | apply below_drew1) | exact HB.out)⟩⟩
        · rw [if_neg c6] at H
          exact absurd H (by simp)
      · rw [if_neg c5] at H
        have c5b0 : decide (x6_1 < (x5_1.length : Int)) = false := decide_eq_false c5
        clear c5
        obtain rfl := Option.some.inj H
        obtain ⟨Ao13, co13, eo13⟩ := Kd.S_slice HO_5.out
        subst eo13
        go_wp2
        go_ret
        exact ⟨_, by first | rfl | (simp [errW_none, errW_some] <;> rfl) | (simp [*, errW_none, errW_some] <;> rfl), by (with_reducible repeat (first | apply Kd.S_alloc | apply Kd.S_drewN | apply Kd.S_drew)); exact HO_5.out, by repeat (first | (with_reducible first | exact HB.out | apply below_alloc | apply pw_below_drewN | apply below_drew1) | exact HB.out)⟩

end Go.Proofs.Ythjmdiggglkeaaa.Q
