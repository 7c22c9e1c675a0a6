import Derived.Test.YthjmdiggglkeaaaXMergeQS
import Derived.Test.YthjmdiggglkeaaaXMergeQspecStoreOk
import Derived.Test.YthjmdiggglkeaaaXMergeQspecl04CopyList
import Derived.Test.YthjmdiggglkeaaaXMergeQspecl05Install
/- A Go function as a Lean function, and its contract: for every input the Go code comes to what the Lean function tells. -/




namespace Go.Proofs.Ythjmdiggglkeaaa.Q
open Go.RowKit Go.Proofs.YthjmdiggglkeaaaW.PrintWords Go.Proofs.YthjmdiggglkeaaaW.PrintLast Go.Proofs.YthjmdiggglkeaaaW.PrintMore
attribute [local go_sem] max2_int min2_int max_two min_two max_three min_three max_four min_four   -- for this text's walks alone
set_option linter.unusedVariables false
set_option linter.unusedSimpArgs false

/-! ### spec_Merge: function 43 -/
mutual
def spec_Merge.l0 : Nat → List (S61) → List (S61) → List (S61) → Int → Option ((List (S61)))
 | 0, _, _, _, _ => none
 | k + 1, x0, x1, x5, x6 => if x6 < (x1.length : Int) then ((spec_StoreOk.f k x0).bind fun t1055 => (spec_Merge.j1 k x0 x1 x5 x6 t1055)) else (spec_Merge.j1 k x0 x1 x5 x6 false)
def spec_Merge.j1 : Nat → List (S61) → List (S61) → List (S61) → Int → Bool → Option ((List (S61)))
 | 0, _, _, _, _, _ => none
 | k + 1, x0, x1, x5, x6, x17 => if x17 = true then (if 0 ≤ x6 then (if x6 < (x1.length : Int) then ((spec_l05Install.f k x5 ((rd_T61 x1 x6).f0) ((rd_T61 x1 x6).f1) ((rd_T61 x1 x6).f2) ((rd_T61 x1 x6).f3) ((rd_T61 x1 x6).f4) ((rd_T61 x1 x6).f5) ((rd_T61 x1 x6).f6) ((rd_T61 x1 x6).f7)).bind fun bt1057 => (if bt1057.2 = true then (spec_Merge.l0 k x0 x1 bt1057.1 (wrap64 (x6 + 1))) else (spec_Merge.l0 k x0 x1 x5 (wrap64 (x6 + 1))))) else (none)) else (none)) else ((spec_l04CopyList.f k x5).bind fun t1061 => (some t1061))
end
def spec_Merge.f (k : Nat) (l0 : List (S61)) (l1 : List (S61)) : Option ((List (S61))) := spec_Merge.l0 k l0 l1 l0 0
theorem spec_Merge.mono_l : ∀ k, (∀ y0 y1 y2 y3, LeO (spec_Merge.l0 k y0 y1 y2 y3) (spec_Merge.l0 (k + 1) y0 y1 y2 y3)) ∧ (∀ y0 y1 y2 y3 y4, LeO (spec_Merge.j1 k y0 y1 y2 y3 y4) (spec_Merge.j1 (k + 1) y0 y1 y2 y3 y4))
 | 0 => ⟨fun _ _ _ _ r h => by simp [spec_Merge.l0] at h, fun _ _ _ _ _ r h => by simp [spec_Merge.j1] at h⟩
 | k + 1 => by
  obtain ⟨ih0, ih1⟩ := spec_Merge.mono_l k
  refine ⟨?_, ?_⟩
  ·intro y0 y1 y2 y3
   unfold spec_Merge.l0
   repeat' first
   | (with_reducible exact ih0 _ _ _ _)
   | (with_reducible exact ih1 _ _ _ _ _)
   | (with_reducible exact spec_StoreOk.mono _ _)
   | (with_reducible exact spec_l04CopyList.mono _ _)
   | (with_reducible exact spec_l05Install.mono _ _ _ _ _ _ _ _ _ _)
   | (with_reducible exact LeO.refl _)
   | (with_reducible exact LeO.none _)
   | (with_reducible refine LeO.ite ?_ ?_)
   | (with_reducible refine LeO.bind ?_ (fun _ => ?_))
   | exact ih0 _ _ _ _
   | exact ih1 _ _ _ _ _
   | exact spec_StoreOk.mono _ _
   | exact spec_l04CopyList.mono _ _
   | exact spec_l05Install.mono _ _ _ _ _ _ _ _ _ _
   | exact LeO.none _
   | refine LeO.ite ?_ ?_
   | refine LeO.bind ?_ (fun _ => ?_)
  ·intro y0 y1 y2 y3 y4
   unfold spec_Merge.j1
   repeat' first
   | (with_reducible exact ih0 _ _ _ _)
   | (with_reducible exact ih1 _ _ _ _ _)
   | (with_reducible exact spec_StoreOk.mono _ _)
   | (with_reducible exact spec_l04CopyList.mono _ _)
   | (with_reducible exact spec_l05Install.mono _ _ _ _ _ _ _ _ _ _)
   | (with_reducible exact LeO.refl _)
   | (with_reducible exact LeO.none _)
   | (with_reducible refine LeO.ite ?_ ?_)
   | (with_reducible refine LeO.bind ?_ (fun _ => ?_))
   | exact ih0 _ _ _ _
   | exact ih1 _ _ _ _ _
   | exact spec_StoreOk.mono _ _
   | exact spec_l04CopyList.mono _ _
   | exact spec_l05Install.mono _ _ _ _ _ _ _ _ _ _
   | exact LeO.none _
   | refine LeO.ite ?_ ?_
   | refine LeO.bind ?_ (fun _ => ?_)
theorem spec_Merge.mono : ∀ a0 a1 k, LeO (spec_Merge.f k a0 a1) (spec_Merge.f (k + 1) a0 a1) := by
 intro a0 a1 k
 obtain ⟨ih0, ih1⟩ := spec_Merge.mono_l k
 unfold spec_Merge.f
 repeat' first
   | (with_reducible exact ih0 _ _ _ _)
   | (with_reducible exact ih1 _ _ _ _ _)
   | (with_reducible exact spec_StoreOk.mono _ _)
   | (with_reducible exact spec_l04CopyList.mono _ _)
   | (with_reducible exact spec_l05Install.mono _ _ _ _ _ _ _ _ _ _)
   | (with_reducible exact LeO.refl _)
   | (with_reducible exact LeO.none _)
   | (with_reducible refine LeO.ite ?_ ?_)
   | (with_reducible refine LeO.bind ?_ (fun _ => ?_))
   | exact ih0 _ _ _ _
   | exact ih1 _ _ _ _ _
   | exact spec_StoreOk.mono _ _
   | exact spec_l04CopyList.mono _ _
   | exact spec_l05Install.mono _ _ _ _ _ _ _ _ _ _
   | exact LeO.none _
   | refine LeO.ite ?_ ?_
   | refine LeO.bind ?_ (fun _ => ?_)
set_option maxHeartbeats 8000000 in
set_option maxRecDepth 100000 in
theorem spec_Merge.calls (k : Nat) (P0_ : Nat → Prop) (A0 : Option Addr) (c0 : Nat) (l0 : List (S61)) (P1_ : Nat → Prop) (A1 : Option Addr) (c1 : Nat) (l1 : List (S61)) (r : List (S61)) (w : World) (hs0 : Kd.V k61 61 w w.heap.size (fun k_ => P0_ k_) (.slice A0 l0.length c0) l0) (hs1 : Kd.V k61 61 w w.heap.size (fun k_ => P1_ k_) (.slice A1 l1.length c1) l1) (h : spec_Merge.f k l0 l1 = some r) :
  Calls Try.prog 43 #[.slice A0 l0.length c0, .slice A1 l1.length c1] w fun e w' => ∃ v0_ : Value, e = .returned (v0_) ∧ Kd.S k61 61 w' w.heap.size (fun k_ => (w.heap.size ≤ k_)) v0_ r ∧ Below w.heap.size w w' := by
 have hu61 := Try.underlying61
 have HO0 := Aside0.mk (show Kd.V k61 61 w w.heap.size (fun k_ => ((P0_ k_ ∨ P1_ k_) ∨ w.heap.size ≤ k_)) (.slice A0 l0.length c0) l0 from Kd.V_mono hs0 (fun k_ hk => .inl (.inl hk)))
 have HO1 := Aside0.mk (show Kd.V k61 61 w w.heap.size (fun k_ => ((P0_ k_ ∨ P1_ k_) ∨ w.heap.size ≤ k_)) (.slice A1 l1.length c1) l1 from Kd.V_mono hs1 (fun k_ hk => .inl (.inr hk)))
 have HB := Aside0.mk (Below.refl w.heap.size w)
 have H : (spec_Merge.l0 k l0 l1 l0 0) = some r := h
 clear h
 have H' := Aside0.mk H
 clear H
 go_enter Try.func43, Try.ntmps43
 go_wp2
 go_loopg [5, 6] k (fun kq v5 v6 w' => ∃ (x5_1 : List (S61)) (x6_1 : Int), v6 = .int .i64 x6_1 ∧ Aside0 (spec_Merge.l0 kq l0 l1 x5_1 x6_1 = some r) ∧ Aside0 (kq ≤ k) ∧ Aside0 (Kd.V k61 61 w' w.heap.size (fun k_ => ((P0_ k_ ∨ P1_ k_) ∨ w.heap.size ≤ k_)) (.slice A0 l0.length c0) l0) ∧ Aside0 (Kd.V k61 61 w' w.heap.size (fun k_ => ((P0_ k_ ∨ P1_ k_) ∨ w.heap.size ≤ k_)) (.slice A1 l1.length c1) l1) ∧ Aside0 (Kd.V k61 61 w' w.heap.size (fun k_ => ((P0_ k_ ∨ P1_ k_) ∨ w.heap.size ≤ k_)) v5 x5_1) ∧ Aside0 (Below w.heap.size w w'))
 case atStart => exact ⟨(l0), (0), (by first | rfl | (simp; done) | (simp [*]; done)), H', ⟨Nat.le_refl _⟩, ⟨by (with_reducible repeat (first | apply Kd.V_alloc | apply Kd.V_drewN | apply Kd.V_drew)); exact HO0.out⟩, ⟨by (with_reducible repeat (first | apply Kd.V_alloc | apply Kd.V_drewN | apply Kd.V_drew)); exact HO1.out⟩, ⟨by (with_reducible repeat (first | apply Kd.V_alloc | apply Kd.V_drewN | apply Kd.V_drew)); exact HO0.out⟩, ⟨bw_q HB⟩⟩
 case round =>
  clear H'
  try clear c1
  try clear p2
  obtain ⟨x5_1, x6_1, rfl, HA, HK1, HO_0, HO_1, HO_5, HB⟩ := hrel
  cases gk with
  | zero => exact absurd HA.out (by simp [spec_Merge.l0])
  | succ k1 =>
   have H := HA.out
   clear HA
   simp only [spec_Merge.l0] at H
   have HC3 := Aside0.mk H
   clear H
   go_upto_region 3 with (fail)
   go_cut [17] (fun v17 wc => ∃ (kq : Nat) (x17_2 : Bool), v17 = .bool x17_2 ∧ Aside0 (spec_Merge.j1 kq l0 l1 x5_1 x6_1 x17_2 = some r) ∧ Aside0 (kq ≤ k1) ∧ Aside0 (Kd.V k61 61 wc w.heap.size (fun k_ => ((P0_ k_ ∨ P1_ k_) ∨ w.heap.size ≤ k_)) (.slice A0 l0.length c0) l0) ∧ Aside0 (Kd.V k61 61 wc w.heap.size (fun k_ => ((P0_ k_ ∨ P1_ k_) ∨ w.heap.size ≤ k_)) (.slice A1 l1.length c1) l1) ∧ Aside0 (Kd.V k61 61 wc w.heap.size (fun k_ => ((P0_ k_ ∨ P1_ k_) ∨ w.heap.size ≤ k_)) u5 x5_1) ∧ Aside0 (Below w.heap.size w wc))
   case first =>
    have H := HC3.out
    clear HC3
    by_cases c4 : x6_1 < (l1.length : Int)
    ·rw [if_pos c4] at H
     have c4b0 : decide (x6_1 < (l1.length : Int)) = true := decide_eq_true c4
     clear c4
     (first | rw [c4b0] | rw [c4b1] | (simp only [i64_w, i32_w]; first | rw [c4b0] | rw [c4b1]) | skip)
     replace H := Option.bind_eq_some_iff.mp H
     obtain ⟨t1055, A50, H⟩ := H
     replace H : (spec_Merge.j1 k1 l0 l1 x5_1 x6_1 t1055) = some r := H
     have A5 := Aside0.mk A50
     clear A50
     have H' := Aside0.mk H
     clear H
     go_wp2_with (first | (go_at_call 88; (with_reducible refine (spec_StoreOk.calls k1 _ _ l0 t1055 _ ?side1 ?side2 A5.out).mono ?_); (case side1 => repeat (first | exact (Kd.V_reads' HO_0.out).2.2 | (with_reducible refine Kd.C_alloc ?_ _) | (with_reducible refine Kd.C_drewN ?_ _) | (with_reducible refine Kd.C_drew ?_))); (case side2 => exact (Kd.V_reads' HO_0.out).2.1); rintro e w6 ⟨rfl, hb⟩; have n0_ := Aside0.mk (Kd.V_below (kV_q HO_0) hb); have n1_ := Aside0.mk (Kd.V_below (kV_q HO_1) hb); have n2_ := Aside0.mk (Kd.V_below (kV_q HO_5) hb); have n3_ := Aside0.mk (below_step (bw_q HB) hb); clear HO_0; clear HO_1; clear HO_5; clear HB; have HO_0 := n0_; have HO_1 := n1_; have HO_5 := n2_; have HB := n3_; clear n0_ n1_ n2_ n3_; (try clear hb); (try clear hb2); (try clear hk); (try clear hi)))
     go_meet
     case rel => exact ⟨_, (t1055), (by first | rfl | (simp; done) | (simp [*]; done)), H', ⟨by have := HK1.out; first | omega | exact Nat.le_refl _⟩, ⟨by (with_reducible repeat (first | apply Kd.V_alloc | apply Kd.V_drewN | apply Kd.V_drew)); exact HO_0.out⟩, ⟨by (with_reducible repeat (first | apply Kd.V_alloc | apply Kd.V_drewN | apply Kd.V_drew)); exact HO_1.out⟩, ⟨by (with_reducible repeat (first | apply Kd.V_alloc | apply Kd.V_drewN | apply Kd.V_drew)); exact HO_5.out⟩, ⟨bw_q HB⟩⟩
    ·rw [if_neg c4] at H
     have c4b0 : decide (x6_1 < (l1.length : Int)) = false := decide_eq_false c4
     clear c4
     (first | rw [c4b0] | rw [c4b1] | (simp only [i64_w, i32_w]; first | rw [c4b0] | rw [c4b1]) | skip)
     have H' := Aside0.mk H
     clear H
     go_wp2
     go_meet
     case rel => exact ⟨_, (false), (by first | rfl | (simp; done) | (simp [*]; done)), H', ⟨by have := HK1.out; first | omega | exact Nat.le_refl _⟩, ⟨by (with_reducible repeat (first | apply Kd.V_alloc | apply Kd.V_drewN | apply Kd.V_drew)); exact HO_0.out⟩, ⟨by (with_reducible repeat (first | apply Kd.V_alloc | apply Kd.V_drewN | apply Kd.V_drew)); exact HO_1.out⟩, ⟨by (with_reducible repeat (first | apply Kd.V_alloc | apply Kd.V_drewN | apply Kd.V_drew)); exact HO_5.out⟩, ⟨bw_q HB⟩⟩
   case rest =>
    clear HC3
    try clear c1
    try clear p2
    try clear c4
    try clear c4b0
    try clear c4b1
    try clear p2
    obtain ⟨kq, x17_2, rfl, HA, HJ2, HO_0, HO_1, HO_5, HB⟩ := hcut
    cases kq with
    | zero => exact absurd HA.out (by simp [spec_Merge.j1])
    | succ kj2 =>
     have H := HA.out
     clear HA
     simp only [spec_Merge.j1] at H
     by_cases c7 : x17_2 = true
     ·subst c7
      have H1 : (if 0 ≤ x6_1 then (if x6_1 < (l1.length : Int) then ((spec_l05Install.f kj2 x5_1 ((rd_T61 l1 x6_1).f0) ((rd_T61 l1 x6_1).f1) ((rd_T61 l1 x6_1).f2) ((rd_T61 l1 x6_1).f3) ((rd_T61 l1 x6_1).f4) ((rd_T61 l1 x6_1).f5) ((rd_T61 l1 x6_1).f6) ((rd_T61 l1 x6_1).f7)).bind fun bt1057 => (if bt1057.2 = true then (spec_Merge.l0 kj2 l0 l1 bt1057.1 (wrap64 (x6_1 + 1))) else (spec_Merge.l0 kj2 l0 l1 x5_1 (wrap64 (x6_1 + 1))))) else (none)) else (none)) = some r := by rw [if_pos rfl] at H; exact H
      clear H
      have H := H1
      clear H1
      by_cases c8 : 0 ≤ x6_1
      ·rw [if_pos c8] at H
       have c8b0 : decide (0 ≤ x6_1) = true := decide_eq_true c8
       clear c8
       by_cases c9 : x6_1 < (l1.length : Int)
       ·rw [if_pos c9] at H
        have c9b0 : decide (x6_1 < (l1.length : Int)) = true := decide_eq_true c9
        clear c9
        replace H := Option.bind_eq_some_iff.mp H
        obtain ⟨⟨t1057, t1060⟩, A100, H⟩ := H
        replace H : (if t1060 = true then (spec_Merge.l0 kj2 l0 l1 t1057 (wrap64 (x6_1 + 1))) else (spec_Merge.l0 kj2 l0 l1 x5_1 (wrap64 (x6_1 + 1)))) = some r := H
        have A10 := Aside0.mk A100
        clear A100
        have HC11 := Aside0.mk H
        clear H
        have p1056 : 0 ≤ (x6_1 : Int) := of_decide_eq_true (by first | (with_reducible assumption) | assumption)
        have q1056 : x6_1 < (l1.length : Int) := of_decide_eq_true (by first | (with_reducible assumption) | assumption)
        obtain ⟨ad1056, A1056_5, c1056_5, e1056, hx1056_0, hx1056_1, hx1056_2, hx1056_3, hx1056_4, hx1056_5, hx1056_6, hx1056_7, hl1056_5, hi1056_5⟩ := at_T61 (Kd.V_reads' HO_1.out).2.2 x6_1 p1056 q1056
        cases e1056
        obtain ⟨ce1056, hce1056, hMe1056, hcc1056⟩ := Kd.V_get HO_1.out z61 x6_1 p1056 (by first | exact q1056 | exact of_decide_eq_true (by first | (with_reducible assumption) | assumption) | (have e_ := (Kd.V_reads' HO_1.out).1; omega))
        obtain ⟨ua1056_5, uc1056_5, rfl, ul1056_5, ge1056_5⟩ := k61_openF hMe1056
        have hv1056_5 := hcc1056 5 _ rfl
        rw [add_field _ _ 5 (by omega)] at hv1056_5
        replace hv1056_5 := Option.some.inj (hv1056_5.symm.trans hx1056_5)
        injection hv1056_5 with hva_ hvn_ hvc_
        rw [hva_] at ge1056_5
        rw [hvc_] at ul1056_5
        have HL1056_5 := Aside0.mk (show Kd.V k127 127 _ w.heap.size _ _ ((rd_T61 l1 x6_1).f5) from Kd.V_mk ul1056_5 ge1056_5)
        clear hva_ hvn_ hvc_ ge1056_5 ul1056_5
        clear hcc1056 hce1056
        have HR1056_5 := Aside0.mk hi1056_5
        have HC1056_5 := Aside0.mk hl1056_5
        clear hi1056_5 hl1056_5
        replace p1056 := eq_true p1056
        replace q1056 := eq_true q1056
        obtain ⟨Ao12, co12, eo12⟩ := Kd.V_slice HO_5.out
        subst eo12
        go_upto_if 29 with (first | ((with_reducible refine gate_callee (f := 93) rfl ?_); refine goesL_ (some 26) rfl rfl Try.func93 (by kernel_rfl) rfl #[.slice Ao12 x5_1.length co12, .agg #[.int .i64 ((rd_T61 l1 x6_1).f0), .int .i64 ((rd_T61 l1 x6_1).f1), .int .i64 ((rd_T61 l1 x6_1).f2), .int .i64 ((rd_T61 l1 x6_1).f3), .int .i64 ((rd_T61 l1 x6_1).f4), .slice A1056_5 ((rd_T61 l1 x6_1).f5).length c1056_5, .int .i64 ((rd_T61 l1 x6_1).f6), .bool ((rd_T61 l1 x6_1).f7)]] rfl mp_q ?_; (with_reducible refine (spec_l05Install.calls kj2 (fun k_ => ((P0_ k_ ∨ P1_ k_) ∨ w.heap.size ≤ k_)) _ _ x5_1 ((rd_T61 l1 x6_1).f0) ((rd_T61 l1 x6_1).f1) ((rd_T61 l1 x6_1).f2) ((rd_T61 l1 x6_1).f3) ((rd_T61 l1 x6_1).f4) (fun k_ => ((P0_ k_ ∨ P1_ k_) ∨ w.heap.size ≤ k_)) _ _ ((rd_T61 l1 x6_1).f5) ((rd_T61 l1 x6_1).f6) ((rd_T61 l1 x6_1).f7) t1057 t1060 _ ?side1 ?side2 A10.out).mono ?_); (case side1 => exact HO_5.out); (case side2 => exact HL1056_5.out); rintro e w13 ⟨v1058, rfl, ho0, hb⟩; refine ⟨_, rfl, ?_⟩; have n0_ := Aside0.mk (Kd.V_below (kV_q HO_0) hb); have n1_ := Aside0.mk (Kd.V_below (kV_q HO_1) hb); have n2_ := Aside0.mk (Kd.V_below (kV_q HO_5) hb); have n3_ := Aside0.mk (Kd.V_below (kV_q HL1056_5) hb); have n4_ := Aside0.mk (Kd.V_lower (Kd.V_mono (ok' := fun k_ => ((P0_ k_ ∨ P1_ k_) ∨ w.heap.size ≤ k_)) ho0 (fun k_ hk_ => Or.elim hk_ (fun hs_ => Or.elim hs_ (fun hs_ => hs_) (fun hs_ => hs_)) (fun hn_ => (.inr (Nat.le_trans (below_size (bw_q HB)) hn_))))) (below_size (bw_q HB))); have n5_ := Aside0.mk (Kd.C_below (by repeat (first | (with_reducible exact HR1056_5.out) | (with_reducible refine Kd.C_alloc ?_ _) | (with_reducible refine Kd.C_drewN ?_ _) | (with_reducible refine Kd.C_drew ?_) | exact HR1056_5.out)) hb); have n6_ := Aside0.mk (below_step (bw_q HB) hb); clear HO_0; clear HO_1; clear HO_5; clear HL1056_5; clear HR1056_5; clear HB; have HO_0 := n0_; have HO_1 := n1_; have HO_5 := n2_; have HL1056_5 := n3_; have HO1059 := n4_; have HR1056_5 := n5_; have HB := n6_; clear n0_ n1_ n2_ n3_ n4_ n5_ n6_; (try clear hb); (try clear hb2); (try clear hk); (try clear hi); (try clear ho0)))
        (try clear hx1056_0); (try clear hx1056_1); (try clear hx1056_2); (try clear hx1056_3); (try clear hx1056_4); (try clear hx1056_5); (try clear hx1056_6); (try clear hx1056_7)
        have H := HC11.out
        clear HC11
        by_cases c14 : t1060 = true
        ·subst c14
         have H1 : (spec_Merge.l0 kj2 l0 l1 t1057 (wrap64 (x6_1 + 1))) = some r := by rw [if_pos rfl] at H; exact H
         clear H
         have H := H1
         clear H1
         have H' := Aside0.mk H
         clear H
         go_wp2
         go_roundg kj2
         case measure => have := HK1.out; have := HJ2.out; omega
         case rel => exact ⟨(t1057), (wrap64 (x6_1 + 1)), (by first | rfl | (simp; done) | (simp [*]; done)), H', ⟨by have := HK1.out; have := HJ2.out; omega⟩, ⟨by (with_reducible repeat (first | apply Kd.V_alloc | apply Kd.V_drewN | apply Kd.V_drew)); exact HO_0.out⟩, ⟨by (with_reducible repeat (first | apply Kd.V_alloc | apply Kd.V_drewN | apply Kd.V_drew)); exact HO_1.out⟩, ⟨by (with_reducible repeat (first | apply Kd.V_alloc | apply Kd.V_drewN | apply Kd.V_drew)); exact HO1059.out⟩, ⟨bw_q HB⟩⟩
        ·replace c14 := Bool.eq_false_iff.mpr c14
         subst c14
         have H1 : (spec_Merge.l0 kj2 l0 l1 x5_1 (wrap64 (x6_1 + 1))) = some r := by rw [if_neg (show ¬ (false = true) by decide)] at H; exact H
         clear H
         have H := H1
         clear H1
         have H' := Aside0.mk H
         clear H
         go_wp2
         go_roundg kj2
         case measure => have := HK1.out; have := HJ2.out; omega
         case rel => exact ⟨(x5_1), (wrap64 (x6_1 + 1)), (by first | rfl | (simp; done) | (simp [*]; done)), H', ⟨by have := HK1.out; have := HJ2.out; omega⟩, ⟨by (with_reducible repeat (first | apply Kd.V_alloc | apply Kd.V_drewN | apply Kd.V_drew)); exact HO_0.out⟩, ⟨by (with_reducible repeat (first | apply Kd.V_alloc | apply Kd.V_drewN | apply Kd.V_drew)); exact HO_1.out⟩, ⟨by (with_reducible repeat (first | apply Kd.V_alloc | apply Kd.V_drewN | apply Kd.V_drew)); exact HO_5.out⟩, ⟨bw_q HB⟩⟩
       ·rw [if_neg c9] at H
        exact absurd H (by simp)
      ·rw [if_neg c8] at H
       exact absurd H (by simp)
     ·replace c7 := Bool.eq_false_iff.mpr c7
      subst c7
      have H1 : ((spec_l04CopyList.f kj2 x5_1).bind fun t1061 => (some t1061)) = some r := by rw [if_neg (show ¬ (false = true) by decide)] at H; exact H
      clear H
      have H := H1
      clear H1
      replace H := Option.bind_eq_some_iff.mp H
      obtain ⟨t1061, A150, H⟩ := H
      replace H : (some t1061) = some r := H
      have A15 := Aside0.mk A150
      clear A150
      obtain rfl := Option.some.inj H
      obtain ⟨Ao16, co16, eo16⟩ := Kd.V_slice HO_5.out
      subst eo16
      go_wp2_with (first | ((with_reducible refine gate_callee (f := 95) rfl ?_); refine goesL_ (some 32) rfl rfl Try.func95 (by kernel_rfl) rfl #[.slice Ao16 x5_1.length co16] rfl mp_q ?_; (with_reducible refine (spec_l04CopyList.calls kj2 _ _ x5_1 t1061 _ ?side1 ?side2 A15.out).mono ?_); (case side1 => repeat (first | exact (Kd.V_reads' HO_5.out).2.2 | (with_reducible refine Kd.C_alloc ?_ _) | (with_reducible refine Kd.C_drewN ?_ _) | (with_reducible refine Kd.C_drew ?_))); (case side2 => exact (Kd.V_reads' HO_5.out).2.1); rintro e w17 ⟨v1062, rfl, ho0, hb⟩; refine ⟨_, rfl, ?_⟩; have n0_ := Aside0.mk (Kd.V_elder' (kV_q HO_0) (Kd.S_base ho0) hb); have n1_ := Aside0.mk (Kd.V_elder' (kV_q HO_1) (Kd.S_base ho0) hb); have n2_ := Aside0.mk (Kd.V_elder' (kV_q HO_5) (Kd.S_base ho0) hb); have n3_ := Aside0.mk (Kd.S_lower (Kd.S_newM (M := fun k_ => (w.heap.size ≤ k_)) ho0 (below_size (bw_q HB)) (fun k_ h_ => h_)) (below_size (bw_q HB))); have n4_ := Aside0.mk (below_step (bw_q HB) hb); clear HO_0; clear HO_1; clear HO_5; clear HB; have HO_0 := n0_; have HO_1 := n1_; have HO_5 := n2_; have HO1063 := n3_; have HB := n4_; clear n0_ n1_ n2_ n3_ n4_; (try clear hb); (try clear hb2); (try clear hk); (try clear hi); (try clear ho0)))
      go_ret
      exact ⟨_, er_q, by (with_reducible repeat (first | apply Kd.S_alloc | apply Kd.S_drewN | apply Kd.S_drew)); exact Kd.S_mono HO1063.out (fun _ hk => hk.1), bw_q HB⟩

end Go.Proofs.Ythjmdiggglkeaaa.Q
