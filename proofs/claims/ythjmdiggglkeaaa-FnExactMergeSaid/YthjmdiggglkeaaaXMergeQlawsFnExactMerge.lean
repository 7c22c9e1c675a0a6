import Derived.Test.YthjmdiggglkeaaaXMergeQS
import Derived.Test.YthjmdiggglkeaaaXMergeQlawsszRecordS
import Derived.Test.YthjmdiggglkeaaaXMergeQlawstoRecordS
import Derived.Test.YthjmdiggglkeaaaXMergeQspecMerge
import Derived.Test.YthjmdiggglkeaaaXMergeQimplMerge
import Derived.Test.YthjmdiggglkeaaaXMergeQlawseqRecordS
import Derived.Test.YthjmdiggglkeaaaXMergeQlawsmarkRecordS
import Derived.Test.YthjmdiggglkeaaaXMergeQlawsheldRecordS
/- A Go function as a Lean function, and its contract: for every input the Go code comes to what the Lean function tells. -/








namespace Go.Proofs.Ythjmdiggglkeaaa.Q
open Go.RowKit Go.Proofs.YthjmdiggglkeaaaW.PrintWords Go.Proofs.YthjmdiggglkeaaaW.PrintLast Go.Proofs.YthjmdiggglkeaaaW.PrintMore
attribute [local go_sem] max2_int min2_int max_two min_two max_three min_three max_four min_four   -- for this text's walks alone
set_option linter.unusedVariables false
set_option linter.unusedSimpArgs false

/-! ### laws_FnExactMerge: function 8 -/
def laws_FnExactMerge.f (k : Nat) (l0 : List (S57)) (l1 : List (S57)) : Option (Bool) := (laws_szRecordS.f k l0 1048576).bind fun t1 => (if t1 < 0 then (some true) else ((laws_szRecordS.f k l1 t1).bind fun t2 => (if t2 < 0 then (some true) else ((laws_toRecordS.f k l0).bind fun t3 => ((laws_toRecordS.f k l1).bind fun t8 => ((spec_Merge.f k t3 t8).bind fun t13 => ((laws_toRecordS.f k l0).bind fun t18 => ((laws_toRecordS.f k l1).bind fun t23 => ((impl_Merge.f k t18 t23).bind fun t28 => ((laws_eqRecordS.f k t28 t13).bind fun t33 => (if t33 = true then ((laws_toRecordS.f k l0).bind fun t34 => ((laws_eqRecordS.f k t18 t34).bind fun t39 => (if t39 = true then ((laws_toRecordS.f k l1).bind fun t40 => ((laws_eqRecordS.f k t23 t40).bind fun t45 => (if t45 = true then ((laws_markRecordS.f k t18 1).bind fun bt46 => ((laws_markRecordS.f k t23 bt46.1).bind fun bt48 => (if bt48.1 < 0 then (some false) else ((laws_eqRecordS.f k t28 t13).bind fun t50 => (if t50 = true then ((laws_markRecordS.f k t28 1).bind fun bt51 => ((laws_heldRecordS.f k bt51.2 1).bind fun t53 => (if t53 < 0 then (some false) else (if t53 = bt51.1 then ((laws_toRecordS.f k l0).bind fun t54 => ((laws_toRecordS.f k l1).bind fun t59 => ((impl_Merge.f k t54 t59).bind fun t64 => ((laws_eqRecordS.f k t64 t13).bind fun t69 => (if t69 = true then ((laws_heldRecordS.f k bt51.2 1).bind fun t70 => (if t70 < 0 then (some false) else (if t70 = bt51.1 then (some true) else (some false)))) else (some false)))))) else (some false))))) else (some false)))))) else (some false)))) else (some false)))) else (some false))))))))))))
/-- What a call makes is new since a step before it, and no newer than its end. -/
theorem laws_FnExactMerge.newS {α : Type} {d : Kd α} {e b n : Nat} {w1 W : World} {v : Value} {xs : List α} (ho : Kd.S d e w1 W.heap.size (fun _ => True) v xs) (h1 : b ≤ n) (h2 : n ≤ W.heap.size) : Kd.S d e w1 b (fun k => n ≤ k ∧ k < w1.heap.size) v xs :=
 Kd.S_lower (Kd.S_mono (Kd.S_bound ho) (fun k hk => ⟨Nat.le_trans h2 hk.2.1, hk.2.2.1⟩)) (Nat.le_trans h1 h2)
theorem laws_FnExactMerge.newR {α : Type} {d : Kd α} {e b n : Nat} {w1 W : World} {v : Value} {xs : List α} (ho : d.R e w1 W.heap.size (fun _ => True) v xs) (h1 : b ≤ n) (h2 : n ≤ W.heap.size) : d.R e w1 b (fun k => n ≤ k ∧ k < w1.heap.size) v xs :=
 Kd.R_lower (Kd.R_mono (Kd.R_bound ho) (fun k hk => ⟨Nat.le_trans h2 hk.2.1, hk.2.2.1⟩)) (Nat.le_trans h1 h2)
theorem laws_FnExactMerge.sameR {α : Type} {d : Kd α} {e b : Nat} {W W1 : World} {ok ok1 : Nat → Prop} {v : Value} {xs ys : List α} (h0 : d.R e W b ok v xs) (h1 : d.R e W1 b ok1 v ys) (hE : d.E = []) : d.R e W1 b ok v ys := Kd.R_mono (Kd.R_tight hE h1) (fun k hk => h0.1 k hk.symm)
theorem laws_FnExactMerge.sameS {α : Type} {d : Kd α} {e b : Nat} {W1 : World} {ok : Nat → Prop} {v : Value} {ys : List α} (h1 : Kd.S d e W1 b ok v ys) : Kd.S d e W1 b ok v ys := h1
set_option maxHeartbeats 8000000 in
set_option maxRecDepth 100000 in
theorem laws_FnExactMerge.calls (k : Nat) (A0 : Option Addr) (c0 : Nat) (l0 : List (S57)) (A1 : Option Addr) (c1 : Nat) (l1 : List (S57)) (r : Bool) (w : World) (hr0 : Kd.C k57 w A0 l0.length l0) (hc0 : l0.length ≤ c0) (hr1 : Kd.C k57 w A1 l1.length l1) (hc1 : l1.length ≤ c1) (hr_ : r = true) (h : laws_FnExactMerge.f k l0 l1 = some r) :
  Calls Try.prog 8 #[.slice A0 l0.length c0, .slice A1 l1.length c1] w fun e w' => e = .returned (.bool r) ∧ Below w.heap.size w w' := by
 have HR0 := Aside0.mk hr0
 have HC0 := Aside0.mk hc0
 have HR1 := Aside0.mk hr1
 have HC1 := Aside0.mk hc1
 clear hr0 hc0 hr1 hc1
 have HB := Aside0.mk (Below.refl w.heap.size w)
 unfold laws_FnExactMerge.f at h
 have H := h
 clear h
 replace H := Option.bind_eq_some_iff.mp H
 obtain ⟨t1, EQ0, H⟩ := H
 (try dsimp only at H)
 have EQ0 := Aside0.mk EQ0
 by_cases cd1 : t1 < 0
 ·rw [if_pos cd1] at H
  have cd1b0 : decide (t1 < 0) = true := decide_eq_true cd1
  obtain rfl := Option.some.inj H
  go_enter Try.func8, Try.ntmps8
  go_wp2_with (first | ((with_reducible refine gate_callee (f := 25) rfl ?_); refine goesL_ (some 16) rfl rfl Try.func25 (by kernel_rfl) rfl #[.slice A0 l0.length c0, .int .i64 1048576] rfl mp_q ?_; (with_reducible refine (laws_szRecordS.calls k A0 c0 l0 1048576 t1 _ ?side1 ?side2 EQ0.out).mono ?_); (case side1 => exact cs_q (Kd.C_below HR0.out HB.out)); (case side2 => exact HC0.out); rintro e_ w1 ⟨rfl, hb⟩; refine ⟨_, rfl, ?_⟩; have n0_ := Aside0.mk ((hb.size : w.heap.size ≤ w1.heap.size)); have n1_ := Aside0.mk (below_step (bw_q HB) hb); clear HB; have NL1 := n0_; have HB := n1_; clear n0_ n1_; (try clear hb); (try clear hk)))
  go_ret
  exact ⟨er_q, bw_q HB⟩
 ·rw [if_neg cd1] at H
  have cd1b0 : decide (t1 < 0) = false := decide_eq_false cd1
  replace H := Option.bind_eq_some_iff.mp H
  obtain ⟨t2, EQ2, H⟩ := H
  (try dsimp only at H)
  have EQ2 := Aside0.mk EQ2
  by_cases cd3 : t2 < 0
  ·rw [if_pos cd3] at H
   have cd3b0 : decide (t2 < 0) = true := decide_eq_true cd3
   obtain rfl := Option.some.inj H
   go_enter Try.func8, Try.ntmps8
   go_wp2_with (first | ((with_reducible refine gate_callee (f := 25) rfl ?_); refine goesL_ (some 16) rfl rfl Try.func25 (by kernel_rfl) rfl #[.slice A0 l0.length c0, .int .i64 1048576] rfl mp_q ?_; (with_reducible refine (laws_szRecordS.calls k A0 c0 l0 1048576 t1 _ ?side1 ?side2 EQ0.out).mono ?_); (case side1 => exact cs_q (Kd.C_below HR0.out HB.out)); (case side2 => exact HC0.out); rintro e_ w1 ⟨rfl, hb⟩; refine ⟨_, rfl, ?_⟩; have n0_ := Aside0.mk ((hb.size : w.heap.size ≤ w1.heap.size)); have n1_ := Aside0.mk (below_step (bw_q HB) hb); clear HB; have NL1 := n0_; have HB := n1_; clear n0_ n1_; (try clear hb); (try clear hk)) | ((with_reducible refine gate_callee (f := 25) rfl ?_); refine goesL_ (some 21) rfl rfl Try.func25 (by kernel_rfl) rfl #[.slice A1 l1.length c1, .int .i64 t1] rfl mp_q ?_; (with_reducible refine (laws_szRecordS.calls k A1 c1 l1 t1 t2 _ ?side1 ?side2 EQ2.out).mono ?_); (case side1 => exact cs_q (Kd.C_below HR1.out HB.out)); (case side2 => exact HC1.out); rintro e_ w2 ⟨rfl, hb⟩; refine ⟨_, rfl, ?_⟩; have n0_ := Aside0.mk ((hb.size : w1.heap.size ≤ w2.heap.size)); have n1_ := Aside0.mk (below_step (bw_q HB) hb); clear HB; have NL2 := n0_; have HB := n1_; clear n0_ n1_; (try clear hb); (try clear hk)))
   go_ret
   exact ⟨er_q, bw_q HB⟩
  ·rw [if_neg cd3] at H
   have cd3b0 : decide (t2 < 0) = false := decide_eq_false cd3
   replace H := Option.bind_eq_some_iff.mp H
   obtain ⟨t3, EQ4, H⟩ := H
   (try dsimp only at H)
   have EQ4 := Aside0.mk EQ4
   replace H := Option.bind_eq_some_iff.mp H
   obtain ⟨t8, EQ5, H⟩ := H
   (try dsimp only at H)
   have EQ5 := Aside0.mk EQ5
   replace H := Option.bind_eq_some_iff.mp H
   obtain ⟨t13, EQ6, H⟩ := H
   (try dsimp only at H)
   have EQ6 := Aside0.mk EQ6
   replace H := Option.bind_eq_some_iff.mp H
   obtain ⟨t18, EQ7, H⟩ := H
   (try dsimp only at H)
   have EQ7 := Aside0.mk EQ7
   replace H := Option.bind_eq_some_iff.mp H
   obtain ⟨t23, EQ8, H⟩ := H
   (try dsimp only at H)
   have EQ8 := Aside0.mk EQ8
   replace H := Option.bind_eq_some_iff.mp H
   obtain ⟨t28, EQ9, H⟩ := H
   (try dsimp only at H)
   have EQ9 := Aside0.mk EQ9
   replace H := Option.bind_eq_some_iff.mp H
   obtain ⟨t33, EQ10, H⟩ := H
   (try dsimp only at H)
   have EQ10 := Aside0.mk EQ10
   by_cases cd11 : t33 = true
   ·rw [if_pos cd11] at H
    subst cd11
    replace H := Option.bind_eq_some_iff.mp H
    obtain ⟨t34, EQ12, H⟩ := H
    (try dsimp only at H)
    have EQ12 := Aside0.mk EQ12
    replace H := Option.bind_eq_some_iff.mp H
    obtain ⟨t39, EQ13, H⟩ := H
    (try dsimp only at H)
    have EQ13 := Aside0.mk EQ13
    by_cases cd14 : t39 = true
    ·rw [if_pos cd14] at H
     subst cd14
     replace H := Option.bind_eq_some_iff.mp H
     obtain ⟨t40, EQ15, H⟩ := H
     (try dsimp only at H)
     have EQ15 := Aside0.mk EQ15
     replace H := Option.bind_eq_some_iff.mp H
     obtain ⟨t45, EQ16, H⟩ := H
     (try dsimp only at H)
     have EQ16 := Aside0.mk EQ16
     by_cases cd17 : t45 = true
     ·rw [if_pos cd17] at H
      subst cd17
      replace H := Option.bind_eq_some_iff.mp H
      obtain ⟨⟨t46, t47⟩, EQ18, H⟩ := H
      (try dsimp only at H)
      have EQ18 := Aside0.mk EQ18
      replace H := Option.bind_eq_some_iff.mp H
      obtain ⟨⟨t48, t49⟩, EQ19, H⟩ := H
      (try dsimp only at H)
      have EQ19 := Aside0.mk EQ19
      by_cases cd20 : t48 < 0
      ·rw [if_pos cd20] at H
       exact absurd (Option.some.inj H) (by rw [hr_]; decide)
      ·rw [if_neg cd20] at H
       have cd20b0 : decide (t48 < 0) = false := decide_eq_false cd20
       replace H := Option.bind_eq_some_iff.mp H
       obtain ⟨t50, EQ21, H⟩ := H
       (try dsimp only at H)
       have EQ21 := Aside0.mk EQ21
       by_cases cd22 : t50 = true
       ·rw [if_pos cd22] at H
        subst cd22
        replace H := Option.bind_eq_some_iff.mp H
        obtain ⟨⟨t51, t52⟩, EQ23, H⟩ := H
        (try dsimp only at H)
        have EQ23 := Aside0.mk EQ23
        replace H := Option.bind_eq_some_iff.mp H
        obtain ⟨t53, EQ24, H⟩ := H
        (try dsimp only at H)
        have EQ24 := Aside0.mk EQ24
        by_cases cd25 : t53 < 0
        ·rw [if_pos cd25] at H
         exact absurd (Option.some.inj H) (by rw [hr_]; decide)
        ·rw [if_neg cd25] at H
         have cd25b0 : decide (t53 < 0) = false := decide_eq_false cd25
         by_cases cd26 : t53 = t51
         ·rw [if_pos cd26] at H
          subst cd26
          replace H := Option.bind_eq_some_iff.mp H
          obtain ⟨t54, EQ27, H⟩ := H
          (try dsimp only at H)
          have EQ27 := Aside0.mk EQ27
          replace H := Option.bind_eq_some_iff.mp H
          obtain ⟨t59, EQ28, H⟩ := H
          (try dsimp only at H)
          have EQ28 := Aside0.mk EQ28
          replace H := Option.bind_eq_some_iff.mp H
          obtain ⟨t64, EQ29, H⟩ := H
          (try dsimp only at H)
          have EQ29 := Aside0.mk EQ29
          replace H := Option.bind_eq_some_iff.mp H
          obtain ⟨t69, EQ30, H⟩ := H
          (try dsimp only at H)
          have EQ30 := Aside0.mk EQ30
          by_cases cd31 : t69 = true
          ·rw [if_pos cd31] at H
           subst cd31
           replace H := Option.bind_eq_some_iff.mp H
           obtain ⟨t70, EQ32, H⟩ := H
           (try dsimp only at H)
           have EQ32 := Aside0.mk EQ32
           by_cases cd33 : t70 < 0
           ·rw [if_pos cd33] at H
            exact absurd (Option.some.inj H) (by rw [hr_]; decide)
           ·rw [if_neg cd33] at H
            have cd33b0 : decide (t70 < 0) = false := decide_eq_false cd33
            by_cases cd34 : t70 = t53
            ·rw [if_pos cd34] at H
             subst cd34
             obtain rfl := Option.some.inj H
             go_enter Try.func8, Try.ntmps8
             go_wp2_with (first | ((with_reducible refine gate_callee (f := 25) rfl ?_); refine goesL_ (some 16) rfl rfl Try.func25 (by kernel_rfl) rfl #[.slice A0 l0.length c0, .int .i64 1048576] rfl mp_q ?_; (with_reducible refine (laws_szRecordS.calls k A0 c0 l0 1048576 t1 _ ?side1 ?side2 EQ0.out).mono ?_); (case side1 => exact cs_q (Kd.C_below HR0.out HB.out)); (case side2 => exact HC0.out); rintro e_ w1 ⟨rfl, hb⟩; refine ⟨_, rfl, ?_⟩; have n0_ := Aside0.mk ((hb.size : w.heap.size ≤ w1.heap.size)); have n1_ := Aside0.mk (below_step (bw_q HB) hb); clear HB; have NL1 := n0_; have HB := n1_; clear n0_ n1_; (try clear hb); (try clear hk)) | ((with_reducible refine gate_callee (f := 25) rfl ?_); refine goesL_ (some 21) rfl rfl Try.func25 (by kernel_rfl) rfl #[.slice A1 l1.length c1, .int .i64 t1] rfl mp_q ?_; (with_reducible refine (laws_szRecordS.calls k A1 c1 l1 t1 t2 _ ?side1 ?side2 EQ2.out).mono ?_); (case side1 => exact cs_q (Kd.C_below HR1.out HB.out)); (case side2 => exact HC1.out); rintro e_ w2 ⟨rfl, hb⟩; refine ⟨_, rfl, ?_⟩; have n0_ := Aside0.mk ((hb.size : w1.heap.size ≤ w2.heap.size)); have n1_ := Aside0.mk (below_step (bw_q HB) hb); clear HB; have NL2 := n0_; have HB := n1_; clear n0_ n1_; (try clear hb); (try clear hk)) | ((with_reducible refine gate_callee (f := 27) rfl ?_); refine goesL_ (some 25) rfl rfl Try.func27 (by kernel_rfl) rfl #[.slice A0 l0.length c0] rfl mp_q ?_; (with_reducible refine (laws_toRecordS.calls k A0 c0 l0 t3 _ ?side1 ?side2 EQ4.out).mono ?_); (case side1 => exact cs_q (Kd.C_below HR0.out HB.out)); (case side2 => exact HC0.out); rintro e_ w3 ⟨v4, rfl, ho0, hb⟩; refine ⟨_, rfl, ?_⟩; have n0_ := Aside0.mk ((hb.size : w2.heap.size ≤ w3.heap.size)); have n1_ := Aside0.mk (laws_FnExactMerge.newS (Kd.S_mono ho0 (fun _ _ => trivial)) (b := w.heap.size) (n := w2.heap.size) (Below.size HB.out) (Nat.le_refl _)); have n2_ := Aside0.mk (below_step (bw_q HB) hb); clear HB; have NL3 := n0_; have HO7 := n1_; have HB := n2_; clear n0_ n1_ n2_; (try clear hb); (try clear hk); (try clear ho0); obtain ⟨Ao5, co6, e_v4⟩ := Kd.S_slice HO7.out; subst e_v4) | ((with_reducible refine gate_callee (f := 27) rfl ?_); refine goesL_ (some 27) rfl rfl Try.func27 (by kernel_rfl) rfl #[.slice A1 l1.length c1] rfl mp_q ?_; (with_reducible refine (laws_toRecordS.calls k A1 c1 l1 t8 _ ?side1 ?side2 EQ5.out).mono ?_); (case side1 => exact cs_q (Kd.C_below HR1.out HB.out)); (case side2 => exact HC1.out); rintro e_ w4 ⟨v9, rfl, ho0, hb⟩; refine ⟨_, rfl, ?_⟩; have n0_ := Aside0.mk (Kd.S_below (kS_q HO7) hb); have n1_ := Aside0.mk ((hb.size : w3.heap.size ≤ w4.heap.size)); have n2_ := Aside0.mk (laws_FnExactMerge.newS (Kd.S_mono ho0 (fun _ _ => trivial)) (b := w.heap.size) (n := w3.heap.size) (Below.size HB.out) (Nat.le_refl _)); have n3_ := Aside0.mk (below_step (bw_q HB) hb); clear HB HO7; have HO7 := n0_; have NL4 := n1_; have HO12 := n2_; have HB := n3_; clear n0_ n1_ n2_ n3_; (try clear hb); (try clear hk); (try clear ho0); obtain ⟨Ao10, co11, e_v9⟩ := Kd.S_slice HO12.out; subst e_v9) | ((with_reducible refine gate_callee (f := 43) rfl ?_); refine goesL_ (some 28) rfl rfl Try.func43 (by kernel_rfl) rfl #[.slice Ao5 t3.length co6, .slice Ao10 t8.length co11] rfl mp_q ?_; (with_reducible refine (spec_Merge.calls k (fun _ => True) Ao5 co6 t3 (fun _ => True) Ao10 co11 t8 t13 _ ?side1 ?side2 EQ6.out).mono ?_); (case side1 => exact Kd.V_mono (Kd.S_V ((kS_q HO7))) (fun _ _ => trivial)); (case side2 => exact Kd.V_mono (Kd.S_V ((kS_q HO12))) (fun _ _ => trivial)); rintro e_ w5 ⟨v14, rfl, ho0, hb⟩; refine ⟨_, rfl, ?_⟩; have n0_ := Aside0.mk ((hb.size : w4.heap.size ≤ w5.heap.size)); have n1_ := Aside0.mk (laws_FnExactMerge.newS (Kd.S_mono ho0 (fun _ _ => trivial)) (b := w.heap.size) (n := w4.heap.size) (Below.size HB.out) (Nat.le_refl _)); have n2_ := Aside0.mk (below_step (bw_q HB) hb); clear HB HO7 HO12; have NL5 := n0_; have HO17 := n1_; have HB := n2_; clear n0_ n1_ n2_; (try clear hb); (try clear hk); (try clear ho0); obtain ⟨Ao15, co16, e_v14⟩ := Kd.S_slice HO17.out; subst e_v14) | ((with_reducible refine gate_callee (f := 27) rfl ?_); refine goesL_ (some 30) rfl rfl Try.func27 (by kernel_rfl) rfl #[.slice A0 l0.length c0] rfl mp_q ?_; (with_reducible refine (laws_toRecordS.calls k A0 c0 l0 t18 _ ?side1 ?side2 EQ7.out).mono ?_); (case side1 => exact cs_q (Kd.C_below HR0.out HB.out)); (case side2 => exact HC0.out); rintro e_ w6 ⟨v19, rfl, ho0, hb⟩; refine ⟨_, rfl, ?_⟩; have n0_ := Aside0.mk (Kd.S_below (kS_q HO17) hb); have n1_ := Aside0.mk ((hb.size : w5.heap.size ≤ w6.heap.size)); have n2_ := Aside0.mk (laws_FnExactMerge.newS (Kd.S_mono ho0 (fun _ _ => trivial)) (b := w.heap.size) (n := w5.heap.size) (Below.size HB.out) (Nat.le_refl _)); have n3_ := Aside0.mk (below_step (bw_q HB) hb); clear HB HO17; have HO17 := n0_; have NL6 := n1_; have HO22 := n2_; have HB := n3_; clear n0_ n1_ n2_ n3_; (try clear hb); (try clear hk); (try clear ho0); obtain ⟨Ao20, co21, e_v19⟩ := Kd.S_slice HO22.out; subst e_v19) | ((with_reducible refine gate_callee (f := 27) rfl ?_); refine goesL_ (some 32) rfl rfl Try.func27 (by kernel_rfl) rfl #[.slice A1 l1.length c1] rfl mp_q ?_; (with_reducible refine (laws_toRecordS.calls k A1 c1 l1 t23 _ ?side1 ?side2 EQ8.out).mono ?_); (case side1 => exact cs_q (Kd.C_below HR1.out HB.out)); (case side2 => exact HC1.out); rintro e_ w7 ⟨v24, rfl, ho0, hb⟩; refine ⟨_, rfl, ?_⟩; have n0_ := Aside0.mk (Kd.S_below (kS_q HO17) hb); have n1_ := Aside0.mk (Kd.S_below (kS_q HO22) hb); have n2_ := Aside0.mk ((hb.size : w6.heap.size ≤ w7.heap.size)); have n3_ := Aside0.mk (laws_FnExactMerge.newS (Kd.S_mono ho0 (fun _ _ => trivial)) (b := w.heap.size) (n := w6.heap.size) (Below.size HB.out) (Nat.le_refl _)); have n4_ := Aside0.mk (below_step (bw_q HB) hb); clear HB HO17 HO22; have HO17 := n0_; have HO22 := n1_; have NL7 := n2_; have HO27 := n3_; have HB := n4_; clear n0_ n1_ n2_ n3_ n4_; (try clear hb); (try clear hk); (try clear ho0); obtain ⟨Ao25, co26, e_v24⟩ := Kd.S_slice HO27.out; subst e_v24) | ((with_reducible refine gate_callee (f := 44) rfl ?_); refine goesL_ (some 35) rfl rfl Try.func44 (by kernel_rfl) rfl #[.slice Ao20 t18.length co21, .slice Ao25 t23.length co26] rfl mp_q ?_; (with_reducible refine (impl_Merge.calls k Ao20 co21 t18 Ao25 co26 t23 t28 _ ?side1 ?side2 ?side3 ?side4 EQ9.out).mono ?_); (case side1 => repeat (first | exact (Kd.S_reads' HO22.out).2.2 | (with_reducible refine Kd.C_alloc ?_ _) | (with_reducible refine Kd.C_drewN ?_ _) | (with_reducible refine Kd.C_drew ?_))); (case side2 => exact (by have e_ := Kd.S_reads' HO22.out; exact Nat.le_trans (Nat.le_of_eq e_.1.symm) e_.2.1)); (case side3 => repeat (first | exact (Kd.S_reads' HO27.out).2.2 | (with_reducible refine Kd.C_alloc ?_ _) | (with_reducible refine Kd.C_drewN ?_ _) | (with_reducible refine Kd.C_drew ?_))); (case side4 => exact (by have e_ := Kd.S_reads' HO27.out; exact Nat.le_trans (Nat.le_of_eq e_.1.symm) e_.2.1)); rintro e_ w8 ⟨v29, rfl, ho0, hb⟩; refine ⟨_, rfl, ?_⟩; have n0_ := Aside0.mk (Kd.S_below (kS_q HO17) hb); have n1_ := Aside0.mk (Kd.S_below (kS_q HO22) hb); have n2_ := Aside0.mk (Kd.S_below (kS_q HO27) hb); have n3_ := Aside0.mk ((hb.size : w7.heap.size ≤ w8.heap.size)); have n4_ := Aside0.mk (laws_FnExactMerge.newS (Kd.S_mono ho0 (fun _ _ => trivial)) (b := w.heap.size) (n := w7.heap.size) (Below.size HB.out) (Nat.le_refl _)); have n5_ := Aside0.mk (below_step (bw_q HB) hb); clear HB HO17 HO22 HO27; have HO17 := n0_; have HO22 := n1_; have HO27 := n2_; have NL8 := n3_; have HO32 := n4_; have HB := n5_; clear n0_ n1_ n2_ n3_ n4_ n5_; (try clear hb); (try clear hk); (try clear ho0); obtain ⟨Ao30, co31, e_v29⟩ := Kd.S_slice HO32.out; subst e_v29) | ((with_reducible refine gate_callee (f := 29) rfl ?_); refine goesL_ (some 38) rfl rfl Try.func29 (by kernel_rfl) rfl #[.slice Ao30 t28.length co31, .slice Ao15 t13.length co16] rfl mp_q ?_; (with_reducible refine (laws_eqRecordS.calls k Ao30 co31 t28 Ao15 co16 t13 true _ ?side1 ?side2 ?side3 ?side4 EQ10.out).mono ?_); (case side1 => repeat (first | exact (Kd.S_reads' HO32.out).2.2 | (with_reducible refine Kd.C_alloc ?_ _) | (with_reducible refine Kd.C_drewN ?_ _) | (with_reducible refine Kd.C_drew ?_))); (case side2 => exact (by have e_ := Kd.S_reads' HO32.out; exact Nat.le_trans (Nat.le_of_eq e_.1.symm) e_.2.1)); (case side3 => repeat (first | exact (Kd.S_reads' HO17.out).2.2 | (with_reducible refine Kd.C_alloc ?_ _) | (with_reducible refine Kd.C_drewN ?_ _) | (with_reducible refine Kd.C_drew ?_))); (case side4 => exact (by have e_ := Kd.S_reads' HO17.out; exact Nat.le_trans (Nat.le_of_eq e_.1.symm) e_.2.1)); rintro e_ w9 ⟨rfl, hb⟩; refine ⟨_, rfl, ?_⟩; have n0_ := Aside0.mk (Kd.S_below (kS_q HO17) hb); have n1_ := Aside0.mk (Kd.S_below (kS_q HO22) hb); have n2_ := Aside0.mk (Kd.S_below (kS_q HO27) hb); have n3_ := Aside0.mk (Kd.S_below (kS_q HO32) hb); have n4_ := Aside0.mk ((hb.size : w8.heap.size ≤ w9.heap.size)); have n5_ := Aside0.mk (below_step (bw_q HB) hb); clear HB HO17 HO22 HO27 HO32; have HO17 := n0_; have HO22 := n1_; have HO27 := n2_; have HO32 := n3_; have NL9 := n4_; have HB := n5_; clear n0_ n1_ n2_ n3_ n4_ n5_; (try clear hb); (try clear hk)) | ((with_reducible refine gate_callee (f := 27) rfl ?_); refine goesL_ (some 42) rfl rfl Try.func27 (by kernel_rfl) rfl #[.slice A0 l0.length c0] rfl mp_q ?_; (with_reducible refine (laws_toRecordS.calls k A0 c0 l0 t34 _ ?side1 ?side2 EQ12.out).mono ?_); (case side1 => exact cs_q (Kd.C_below HR0.out HB.out)); (case side2 => exact HC0.out); rintro e_ w10 ⟨v35, rfl, ho0, hb⟩; refine ⟨_, rfl, ?_⟩; have n0_ := Aside0.mk (Kd.S_below (kS_q HO17) hb); have n1_ := Aside0.mk (Kd.S_below (kS_q HO22) hb); have n2_ := Aside0.mk (Kd.S_below (kS_q HO27) hb); have n3_ := Aside0.mk (Kd.S_below (kS_q HO32) hb); have n4_ := Aside0.mk ((hb.size : w9.heap.size ≤ w10.heap.size)); have n5_ := Aside0.mk (laws_FnExactMerge.newS (Kd.S_mono ho0 (fun _ _ => trivial)) (b := w.heap.size) (n := w9.heap.size) (Below.size HB.out) (Nat.le_refl _)); have n6_ := Aside0.mk (below_step (bw_q HB) hb); clear HB HO17 HO22 HO27 HO32; have HO17 := n0_; have HO22 := n1_; have HO27 := n2_; have HO32 := n3_; have NL10 := n4_; have HO38 := n5_; have HB := n6_; clear n0_ n1_ n2_ n3_ n4_ n5_ n6_; (try clear hb); (try clear hk); (try clear ho0); obtain ⟨Ao36, co37, e_v35⟩ := Kd.S_slice HO38.out; subst e_v35) | ((with_reducible refine gate_callee (f := 29) rfl ?_); refine goesL_ (some 43) rfl rfl Try.func29 (by kernel_rfl) rfl #[.slice Ao20 t18.length co21, .slice Ao36 t34.length co37] rfl mp_q ?_; (with_reducible refine (laws_eqRecordS.calls k Ao20 co21 t18 Ao36 co37 t34 true _ ?side1 ?side2 ?side3 ?side4 EQ13.out).mono ?_); (case side1 => repeat (first | exact (Kd.S_reads' HO22.out).2.2 | (with_reducible refine Kd.C_alloc ?_ _) | (with_reducible refine Kd.C_drewN ?_ _) | (with_reducible refine Kd.C_drew ?_))); (case side2 => exact (by have e_ := Kd.S_reads' HO22.out; exact Nat.le_trans (Nat.le_of_eq e_.1.symm) e_.2.1)); (case side3 => repeat (first | exact (Kd.S_reads' HO38.out).2.2 | (with_reducible refine Kd.C_alloc ?_ _) | (with_reducible refine Kd.C_drewN ?_ _) | (with_reducible refine Kd.C_drew ?_))); (case side4 => exact (by have e_ := Kd.S_reads' HO38.out; exact Nat.le_trans (Nat.le_of_eq e_.1.symm) e_.2.1)); rintro e_ w11 ⟨rfl, hb⟩; refine ⟨_, rfl, ?_⟩; have n0_ := Aside0.mk (Kd.S_below (kS_q HO17) hb); have n1_ := Aside0.mk (Kd.S_below (kS_q HO22) hb); have n2_ := Aside0.mk (Kd.S_below (kS_q HO27) hb); have n3_ := Aside0.mk (Kd.S_below (kS_q HO32) hb); have n4_ := Aside0.mk ((hb.size : w10.heap.size ≤ w11.heap.size)); have n5_ := Aside0.mk (below_step (bw_q HB) hb); clear HB HO17 HO22 HO27 HO32 HO38; have HO17 := n0_; have HO22 := n1_; have HO27 := n2_; have HO32 := n3_; have NL11 := n4_; have HB := n5_; clear n0_ n1_ n2_ n3_ n4_ n5_; (try clear hb); (try clear hk)) | ((with_reducible refine gate_callee (f := 27) rfl ?_); refine goesL_ (some 47) rfl rfl Try.func27 (by kernel_rfl) rfl #[.slice A1 l1.length c1] rfl mp_q ?_; (with_reducible refine (laws_toRecordS.calls k A1 c1 l1 t40 _ ?side1 ?side2 EQ15.out).mono ?_); (case side1 => exact cs_q (Kd.C_below HR1.out HB.out)); (case side2 => exact HC1.out); rintro e_ w12 ⟨v41, rfl, ho0, hb⟩; refine ⟨_, rfl, ?_⟩; have n0_ := Aside0.mk (Kd.S_below (kS_q HO17) hb); have n1_ := Aside0.mk (Kd.S_below (kS_q HO22) hb); have n2_ := Aside0.mk (Kd.S_below (kS_q HO27) hb); have n3_ := Aside0.mk (Kd.S_below (kS_q HO32) hb); have n4_ := Aside0.mk ((hb.size : w11.heap.size ≤ w12.heap.size)); have n5_ := Aside0.mk (laws_FnExactMerge.newS (Kd.S_mono ho0 (fun _ _ => trivial)) (b := w.heap.size) (n := w11.heap.size) (Below.size HB.out) (Nat.le_refl _)); have n6_ := Aside0.mk (below_step (bw_q HB) hb); clear HB HO17 HO22 HO27 HO32; have HO17 := n0_; have HO22 := n1_; have HO27 := n2_; have HO32 := n3_; have NL12 := n4_; have HO44 := n5_; have HB := n6_; clear n0_ n1_ n2_ n3_ n4_ n5_ n6_; (try clear hb); (try clear hk); (try clear ho0); obtain ⟨Ao42, co43, e_v41⟩ := Kd.S_slice HO44.out; subst e_v41) | ((with_reducible refine gate_callee (f := 29) rfl ?_); refine goesL_ (some 48) rfl rfl Try.func29 (by kernel_rfl) rfl #[.slice Ao25 t23.length co26, .slice Ao42 t40.length co43] rfl mp_q ?_; (with_reducible refine (laws_eqRecordS.calls k Ao25 co26 t23 Ao42 co43 t40 true _ ?side1 ?side2 ?side3 ?side4 EQ16.out).mono ?_); (case side1 => repeat (first | exact (Kd.S_reads' HO27.out).2.2 | (with_reducible refine Kd.C_alloc ?_ _) | (with_reducible refine Kd.C_drewN ?_ _) | (with_reducible refine Kd.C_drew ?_))); (case side2 => exact (by have e_ := Kd.S_reads' HO27.out; exact Nat.le_trans (Nat.le_of_eq e_.1.symm) e_.2.1)); (case side3 => repeat (first | exact (Kd.S_reads' HO44.out).2.2 | (with_reducible refine Kd.C_alloc ?_ _) | (with_reducible refine Kd.C_drewN ?_ _) | (with_reducible refine Kd.C_drew ?_))); (case side4 => exact (by have e_ := Kd.S_reads' HO44.out; exact Nat.le_trans (Nat.le_of_eq e_.1.symm) e_.2.1)); rintro e_ w13 ⟨rfl, hb⟩; refine ⟨_, rfl, ?_⟩; have n0_ := Aside0.mk (Kd.S_below (kS_q HO17) hb); have n1_ := Aside0.mk (Kd.S_below (kS_q HO22) hb); have n2_ := Aside0.mk (Kd.S_below (kS_q HO27) hb); have n3_ := Aside0.mk (Kd.S_below (kS_q HO32) hb); have n4_ := Aside0.mk ((hb.size : w12.heap.size ≤ w13.heap.size)); have n5_ := Aside0.mk (below_step (bw_q HB) hb); clear HB HO17 HO22 HO27 HO32 HO44; have HO17 := n0_; have HO22 := n1_; have HO27 := n2_; have HO32 := n3_; have NL13 := n4_; have HB := n5_; clear n0_ n1_ n2_ n3_ n4_ n5_; (try clear hb); (try clear hk)) | ((with_reducible refine gate_callee (f := 31) rfl ?_); refine goesL_ (some 52) rfl rfl Try.func31 (by kernel_rfl) rfl #[.slice Ao20 t18.length co21, .int .i64 1] rfl mp_q ?_; (with_reducible refine (laws_markRecordS.calls k (fun k_ => w5.heap.size ≤ k_ ∧ k_ < w6.heap.size) (.slice Ao20 t18.length co21) t18 1 t46 t47 w _ ?side1 ?side2 EQ18.out).mono ?_); (case side1 => exact (bw_q HB)); (case side2 => exact (kS_q HO22)); rintro e_ w14 ⟨rfl, hm0, hb, hk⟩; refine ⟨_, rfl, ?_⟩; have n0_ := Aside0.mk (Kd.S_kept (kS_q HO17) hk (fun k_ h1_ h2_ => by have q0 := NL1.out; have q1 := NL2.out; have q2 := NL3.out; have q3 := NL4.out; have q4 := NL5.out; have q5 := NL6.out; have q6 := NL7.out; have q7 := NL8.out; have q8 := NL9.out; have q9 := NL10.out; have q10 := NL11.out; have q11 := NL12.out; have q12 := NL13.out; have a1 := h1_.1; have a2 := h1_.2; have a3 := h2_.1; have a4 := h2_.2; omega)); have n1_ := Aside0.mk (Kd.S_kept (kS_q HO27) hk (fun k_ h1_ h2_ => by have q0 := NL1.out; have q1 := NL2.out; have q2 := NL3.out; have q3 := NL4.out; have q4 := NL5.out; have q5 := NL6.out; have q6 := NL7.out; have q7 := NL8.out; have q8 := NL9.out; have q9 := NL10.out; have q10 := NL11.out; have q11 := NL12.out; have q12 := NL13.out; have a1 := h1_.1; have a2 := h1_.2; have a3 := h2_.1; have a4 := h2_.2; omega)); have n2_ := Aside0.mk (Kd.S_kept (kS_q HO32) hk (fun k_ h1_ h2_ => by have q0 := NL1.out; have q1 := NL2.out; have q2 := NL3.out; have q3 := NL4.out; have q4 := NL5.out; have q5 := NL6.out; have q6 := NL7.out; have q7 := NL8.out; have q8 := NL9.out; have q9 := NL10.out; have q10 := NL11.out; have q11 := NL12.out; have q12 := NL13.out; have a1 := h1_.1; have a2 := h1_.2; have a3 := h2_.1; have a4 := h2_.2; omega)); have n3_ := Aside0.mk (hb); have n4_ := Aside0.mk ((hk.1 : w13.heap.size ≤ w14.heap.size)); clear HB HO17 HO22 HO27 HO32; have HO17 := n0_; have HO27 := n1_; have HO32 := n2_; have HB := n3_; have NL14 := n4_; clear n0_ n1_ n2_ n3_ n4_; (try clear hb); (try clear hk); (try clear hm0)) | ((with_reducible refine gate_callee (f := 31) rfl ?_); refine goesL_ (some 55) rfl rfl Try.func31 (by kernel_rfl) rfl #[.slice Ao25 t23.length co26, .int .i64 t46] rfl mp_q ?_; (with_reducible refine (laws_markRecordS.calls k (fun k_ => w6.heap.size ≤ k_ ∧ k_ < w7.heap.size) (.slice Ao25 t23.length co26) t23 t46 t48 t49 w _ ?side1 ?side2 EQ19.out).mono ?_); (case side1 => exact (bw_q HB)); (case side2 => exact (kS_q HO27)); rintro e_ w15 ⟨rfl, hm0, hb, hk⟩; refine ⟨_, rfl, ?_⟩; have n0_ := Aside0.mk (Kd.S_kept (kS_q HO17) hk (fun k_ h1_ h2_ => by have q0 := NL1.out; have q1 := NL2.out; have q2 := NL3.out; have q3 := NL4.out; have q4 := NL5.out; have q5 := NL6.out; have q6 := NL7.out; have q7 := NL8.out; have q8 := NL9.out; have q9 := NL10.out; have q10 := NL11.out; have q11 := NL12.out; have q12 := NL13.out; have q13 := NL14.out; have a1 := h1_.1; have a2 := h1_.2; have a3 := h2_.1; have a4 := h2_.2; omega)); have n1_ := Aside0.mk (Kd.S_kept (kS_q HO32) hk (fun k_ h1_ h2_ => by have q0 := NL1.out; have q1 := NL2.out; have q2 := NL3.out; have q3 := NL4.out; have q4 := NL5.out; have q5 := NL6.out; have q6 := NL7.out; have q7 := NL8.out; have q8 := NL9.out; have q9 := NL10.out; have q10 := NL11.out; have q11 := NL12.out; have q12 := NL13.out; have q13 := NL14.out; have a1 := h1_.1; have a2 := h1_.2; have a3 := h2_.1; have a4 := h2_.2; omega)); have n2_ := Aside0.mk (hb); have n3_ := Aside0.mk ((hk.1 : w14.heap.size ≤ w15.heap.size)); clear HB HO17 HO27 HO32; have HO17 := n0_; have HO32 := n1_; have HB := n2_; have NL15 := n3_; clear n0_ n1_ n2_ n3_; (try clear hb); (try clear hk); (try clear hm0)) | ((with_reducible refine gate_callee (f := 29) rfl ?_); (try (refine gate_guard (by rfl) ?_; dsimp only)); refine goesL_ (some 61) rfl rfl Try.func29 (by kernel_rfl) rfl #[.slice Ao30 t28.length co31, .slice Ao15 t13.length co16] rfl mp_q ?_; (with_reducible refine (laws_eqRecordS.calls k Ao30 co31 t28 Ao15 co16 t13 true _ ?side1 ?side2 ?side3 ?side4 EQ21.out).mono ?_); (case side1 => repeat (first | exact (Kd.S_reads' HO32.out).2.2 | (with_reducible refine Kd.C_alloc ?_ _) | (with_reducible refine Kd.C_drewN ?_ _) | (with_reducible refine Kd.C_drew ?_))); (case side2 => exact (by have e_ := Kd.S_reads' HO32.out; exact Nat.le_trans (Nat.le_of_eq e_.1.symm) e_.2.1)); (case side3 => repeat (first | exact (Kd.S_reads' HO17.out).2.2 | (with_reducible refine Kd.C_alloc ?_ _) | (with_reducible refine Kd.C_drewN ?_ _) | (with_reducible refine Kd.C_drew ?_))); (case side4 => exact (by have e_ := Kd.S_reads' HO17.out; exact Nat.le_trans (Nat.le_of_eq e_.1.symm) e_.2.1)); rintro e_ w16 ⟨rfl, hb⟩; refine ⟨_, rfl, ?_⟩; have n0_ := Aside0.mk (Kd.S_below (kS_q HO17) hb); have n1_ := Aside0.mk (Kd.S_below (kS_q HO32) hb); have n2_ := Aside0.mk ((hb.size : w15.heap.size ≤ w16.heap.size)); have n3_ := Aside0.mk (below_step (bw_q HB) hb); clear HB HO17 HO32; have HO17 := n0_; have HO32 := n1_; have NL16 := n2_; have HB := n3_; clear n0_ n1_ n2_ n3_; (try clear hb); (try clear hk)) | ((with_reducible refine gate_callee (f := 31) rfl ?_); refine goesL_ (some 66) rfl rfl Try.func31 (by kernel_rfl) rfl #[.slice Ao30 t28.length co31, .int .i64 1] rfl mp_q ?_; (with_reducible refine (laws_markRecordS.calls k (fun k_ => w7.heap.size ≤ k_ ∧ k_ < w8.heap.size) (.slice Ao30 t28.length co31) t28 1 t70 t52 w _ ?side1 ?side2 EQ23.out).mono ?_); (case side1 => exact (bw_q HB)); (case side2 => exact (kS_q HO32)); rintro e_ w17 ⟨rfl, hm0, hb, hk⟩; refine ⟨_, rfl, ?_⟩; have n0_ := Aside0.mk (Kd.S_kept (kS_q HO17) hk (fun k_ h1_ h2_ => by have q0 := NL1.out; have q1 := NL2.out; have q2 := NL3.out; have q3 := NL4.out; have q4 := NL5.out; have q5 := NL6.out; have q6 := NL7.out; have q7 := NL8.out; have q8 := NL9.out; have q9 := NL10.out; have q10 := NL11.out; have q11 := NL12.out; have q12 := NL13.out; have q13 := NL14.out; have q14 := NL15.out; have q15 := NL16.out; have a1 := h1_.1; have a2 := h1_.2; have a3 := h2_.1; have a4 := h2_.2; omega)); have n1_ := Aside0.mk (laws_FnExactMerge.sameS hm0); have n2_ := Aside0.mk (hb); have n3_ := Aside0.mk ((hk.1 : w16.heap.size ≤ w17.heap.size)); clear HB HO17 HO32; have HO17 := n0_; have HO32 := n1_; have HB := n2_; have NL17 := n3_; clear n0_ n1_ n2_ n3_; (try clear hb); (try clear hk); (try clear hm0)) | ((with_reducible refine gate_callee (f := 33) rfl ?_); refine goesL_ (some 69) rfl rfl Try.func33 (by kernel_rfl) rfl #[.slice Ao30 t52.length co31, .int .i64 1] rfl (by (try simp only [List.map_toArray, List.map_cons, List.map_nil]); first | done | rfl | (rw [show t52.length = t28.length from (Kd.S_reads' HO32.out).1.symm] <;> rfl) | (simp only [List.length_drop, List.length_take]; rfl)) ?_; (with_reducible refine (laws_heldRecordS.calls k Ao30 co31 t52 1 t70 _ ?side1 ?side2 EQ24.out).mono ?_); (case side1 => repeat (first | exact (Kd.S_reads' HO32.out).2.2 | (with_reducible refine Kd.C_alloc ?_ _) | (with_reducible refine Kd.C_drewN ?_ _) | (with_reducible refine Kd.C_drew ?_))); (case side2 => exact (by have e_ := Kd.S_reads' HO32.out; exact Nat.le_trans (Nat.le_of_eq e_.1.symm) e_.2.1)); rintro e_ w18 ⟨rfl, hb⟩; refine ⟨_, rfl, ?_⟩; replace hb := Drawn0.below hb; have n0_ := Aside0.mk (Kd.S_below (kS_q HO17) hb); have n1_ := Aside0.mk (Kd.S_below (kS_q HO32) hb); have n2_ := Aside0.mk ((hb.size : w17.heap.size ≤ w18.heap.size)); have n3_ := Aside0.mk (below_step (bw_q HB) hb); clear HB HO17 HO32; have HO17 := n0_; have HO32 := n1_; have NL18 := n2_; have HB := n3_; clear n0_ n1_ n2_ n3_; (try clear hb); (try clear hk)) | ((with_reducible refine gate_callee (f := 27) rfl ?_); refine goesL_ (some 76) rfl rfl Try.func27 (by kernel_rfl) rfl #[.slice A0 l0.length c0] rfl mp_q ?_; (with_reducible refine (laws_toRecordS.calls k A0 c0 l0 t54 _ ?side1 ?side2 EQ27.out).mono ?_); (case side1 => exact cs_q (Kd.C_below HR0.out HB.out)); (case side2 => exact HC0.out); rintro e_ w19 ⟨v55, rfl, ho0, hb⟩; refine ⟨_, rfl, ?_⟩; have n0_ := Aside0.mk (Kd.S_below (kS_q HO17) hb); have n1_ := Aside0.mk (Kd.S_below (kS_q HO32) hb); have n2_ := Aside0.mk ((hb.size : w18.heap.size ≤ w19.heap.size)); have n3_ := Aside0.mk (laws_FnExactMerge.newS (Kd.S_mono ho0 (fun _ _ => trivial)) (b := w.heap.size) (n := w18.heap.size) (Below.size HB.out) (Nat.le_refl _)); have n4_ := Aside0.mk (below_step (bw_q HB) hb); clear HB HO17 HO32; have HO17 := n0_; have HO32 := n1_; have NL19 := n2_; have HO58 := n3_; have HB := n4_; clear n0_ n1_ n2_ n3_ n4_; (try clear hb); (try clear hk); (try clear ho0); obtain ⟨Ao56, co57, e_v55⟩ := Kd.S_slice HO58.out; subst e_v55) | ((with_reducible refine gate_callee (f := 27) rfl ?_); refine goesL_ (some 78) rfl rfl Try.func27 (by kernel_rfl) rfl #[.slice A1 l1.length c1] rfl mp_q ?_; (with_reducible refine (laws_toRecordS.calls k A1 c1 l1 t59 _ ?side1 ?side2 EQ28.out).mono ?_); (case side1 => exact cs_q (Kd.C_below HR1.out HB.out)); (case side2 => exact HC1.out); rintro e_ w20 ⟨v60, rfl, ho0, hb⟩; refine ⟨_, rfl, ?_⟩; have n0_ := Aside0.mk (Kd.S_below (kS_q HO17) hb); have n1_ := Aside0.mk (Kd.S_below (kS_q HO32) hb); have n2_ := Aside0.mk (Kd.S_below (kS_q HO58) hb); have n3_ := Aside0.mk ((hb.size : w19.heap.size ≤ w20.heap.size)); have n4_ := Aside0.mk (laws_FnExactMerge.newS (Kd.S_mono ho0 (fun _ _ => trivial)) (b := w.heap.size) (n := w19.heap.size) (Below.size HB.out) (Nat.le_refl _)); have n5_ := Aside0.mk (below_step (bw_q HB) hb); clear HB HO17 HO32 HO58; have HO17 := n0_; have HO32 := n1_; have HO58 := n2_; have NL20 := n3_; have HO63 := n4_; have HB := n5_; clear n0_ n1_ n2_ n3_ n4_ n5_; (try clear hb); (try clear hk); (try clear ho0); obtain ⟨Ao61, co62, e_v60⟩ := Kd.S_slice HO63.out; subst e_v60) | ((with_reducible refine gate_callee (f := 44) rfl ?_); refine goesL_ (some 79) rfl rfl Try.func44 (by kernel_rfl) rfl #[.slice Ao56 t54.length co57, .slice Ao61 t59.length co62] rfl mp_q ?_; (with_reducible refine (impl_Merge.calls k Ao56 co57 t54 Ao61 co62 t59 t64 _ ?side1 ?side2 ?side3 ?side4 EQ29.out).mono ?_); (case side1 => repeat (first | exact (Kd.S_reads' HO58.out).2.2 | (with_reducible refine Kd.C_alloc ?_ _) | (with_reducible refine Kd.C_drewN ?_ _) | (with_reducible refine Kd.C_drew ?_))); (case side2 => exact (by have e_ := Kd.S_reads' HO58.out; exact Nat.le_trans (Nat.le_of_eq e_.1.symm) e_.2.1)); (case side3 => repeat (first | exact (Kd.S_reads' HO63.out).2.2 | (with_reducible refine Kd.C_alloc ?_ _) | (with_reducible refine Kd.C_drewN ?_ _) | (with_reducible refine Kd.C_drew ?_))); (case side4 => exact (by have e_ := Kd.S_reads' HO63.out; exact Nat.le_trans (Nat.le_of_eq e_.1.symm) e_.2.1)); rintro e_ w21 ⟨v65, rfl, ho0, hb⟩; refine ⟨_, rfl, ?_⟩; have n0_ := Aside0.mk (Kd.S_below (kS_q HO17) hb); have n1_ := Aside0.mk (Kd.S_below (kS_q HO32) hb); have n2_ := Aside0.mk ((hb.size : w20.heap.size ≤ w21.heap.size)); have n3_ := Aside0.mk (laws_FnExactMerge.newS (Kd.S_mono ho0 (fun _ _ => trivial)) (b := w.heap.size) (n := w20.heap.size) (Below.size HB.out) (Nat.le_refl _)); have n4_ := Aside0.mk (below_step (bw_q HB) hb); clear HB HO17 HO32 HO58 HO63; have HO17 := n0_; have HO32 := n1_; have NL21 := n2_; have HO68 := n3_; have HB := n4_; clear n0_ n1_ n2_ n3_ n4_; (try clear hb); (try clear hk); (try clear ho0); obtain ⟨Ao66, co67, e_v65⟩ := Kd.S_slice HO68.out; subst e_v65) | ((with_reducible refine gate_callee (f := 29) rfl ?_); refine goesL_ (some 82) rfl rfl Try.func29 (by kernel_rfl) rfl #[.slice Ao66 t64.length co67, .slice Ao15 t13.length co16] rfl mp_q ?_; (with_reducible refine (laws_eqRecordS.calls k Ao66 co67 t64 Ao15 co16 t13 true _ ?side1 ?side2 ?side3 ?side4 EQ30.out).mono ?_); (case side1 => repeat (first | exact (Kd.S_reads' HO68.out).2.2 | (with_reducible refine Kd.C_alloc ?_ _) | (with_reducible refine Kd.C_drewN ?_ _) | (with_reducible refine Kd.C_drew ?_))); (case side2 => exact (by have e_ := Kd.S_reads' HO68.out; exact Nat.le_trans (Nat.le_of_eq e_.1.symm) e_.2.1)); (case side3 => repeat (first | exact (Kd.S_reads' HO17.out).2.2 | (with_reducible refine Kd.C_alloc ?_ _) | (with_reducible refine Kd.C_drewN ?_ _) | (with_reducible refine Kd.C_drew ?_))); (case side4 => exact (by have e_ := Kd.S_reads' HO17.out; exact Nat.le_trans (Nat.le_of_eq e_.1.symm) e_.2.1)); rintro e_ w22 ⟨rfl, hb⟩; refine ⟨_, rfl, ?_⟩; have n0_ := Aside0.mk (Kd.S_below (kS_q HO32) hb); have n1_ := Aside0.mk ((hb.size : w21.heap.size ≤ w22.heap.size)); have n2_ := Aside0.mk (below_step (bw_q HB) hb); clear HB HO17 HO32 HO68; have HO32 := n0_; have NL22 := n1_; have HB := n2_; clear n0_ n1_ n2_; (try clear hb); (try clear hk)) | ((with_reducible refine gate_callee (f := 33) rfl ?_); refine goesL_ (some 86) rfl rfl Try.func33 (by kernel_rfl) rfl #[.slice Ao30 t52.length co31, .int .i64 1] rfl (by (try simp only [List.map_toArray, List.map_cons, List.map_nil]); first | done | rfl | (rw [show t52.length = t28.length from (Kd.S_reads' HO32.out).1.symm] <;> rfl) | (simp only [List.length_drop, List.length_take]; rfl)) ?_; (with_reducible refine (laws_heldRecordS.calls k Ao30 co31 t52 1 t70 _ ?side1 ?side2 EQ32.out).mono ?_); (case side1 => repeat (first | exact (Kd.S_reads' HO32.out).2.2 | (with_reducible refine Kd.C_alloc ?_ _) | (with_reducible refine Kd.C_drewN ?_ _) | (with_reducible refine Kd.C_drew ?_))); (case side2 => exact (by have e_ := Kd.S_reads' HO32.out; exact Nat.le_trans (Nat.le_of_eq e_.1.symm) e_.2.1)); rintro e_ w23 ⟨rfl, hb⟩; refine ⟨_, rfl, ?_⟩; replace hb := Drawn0.below hb; have n0_ := Aside0.mk ((hb.size : w22.heap.size ≤ w23.heap.size)); have n1_ := Aside0.mk (below_step (bw_q HB) hb); clear HB HO32; have NL23 := n0_; have HB := n1_; clear n0_ n1_; (try clear hb); (try clear hk)))
             go_ret
             exact ⟨er_q, bw_q HB⟩
            ·rw [if_neg cd34] at H
             exact absurd (Option.some.inj H) (by rw [hr_]; decide)
          ·rw [if_neg cd31] at H
           exact absurd (Option.some.inj H) (by rw [hr_]; decide)
         ·rw [if_neg cd26] at H
          exact absurd (Option.some.inj H) (by rw [hr_]; decide)
       ·rw [if_neg cd22] at H
        exact absurd (Option.some.inj H) (by rw [hr_]; decide)
     ·rw [if_neg cd17] at H
      exact absurd (Option.some.inj H) (by rw [hr_]; decide)
    ·rw [if_neg cd14] at H
     exact absurd (Option.some.inj H) (by rw [hr_]; decide)
   ·rw [if_neg cd11] at H
    exact absurd (Option.some.inj H) (by rw [hr_]; decide)
end Go.Proofs.Ythjmdiggglkeaaa.Q
