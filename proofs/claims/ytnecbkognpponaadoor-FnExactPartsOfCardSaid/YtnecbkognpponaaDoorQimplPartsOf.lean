/- A Go function as a Lean function, and its contract: for every input the Go code comes to what the Lean function tells. -/
import Derived.Test.YtnecbkognpponaaDoorQT
import Derived.Test.YtnecbkognpponaaDoorQstringsSplit
namespace Go.Proofs.YtnecbkognpponaaDoor.Q
open Go.RowKit Go.Proofs.YtnecbkognpponaaDoorW.PrintWords Go.Proofs.YtnecbkognpponaaDoorW.PrintLast Go.Proofs.YtnecbkognpponaaDoorW.PrintMore
attribute [local go_sem] max2_int min2_int max_two min_two max_three min_three max_four min_four   -- for this text's walks alone
set_option linter.unusedVariables false
set_option linter.unusedSimpArgs false

/-! ### impl_PartsOf: function 20 -/
mutual
def impl_PartsOf.l0 : Nat → ByteArray → Int → Int → Option (List ByteArray × Bool)
 | 0, _, _, _ => none
 | k + 1, x0, x12, x13 => if x13 < x12 then (if 0 ≤ x13 then (if x13 < (x0.size : Int) then (if (bt x0 x13) < 32 then (some (([] : List ByteArray), false)) else (if (bt x0 x13) > 126 then (some (([] : List ByteArray), false)) else (impl_PartsOf.l0 k x0 x12 (wrap64 (x13 + 1))))) else (none)) else (none)) else ((strings_Split.f x0 (⟨#[32]⟩ : ByteArray)).bind fun t115 => (impl_PartsOf.l1 k ([] : List ByteArray) t115 (t115.length : Int) 0))
def impl_PartsOf.l1 : Nat → List ByteArray → List ByteArray → Int → Int → Option (List ByteArray × Bool)
 | 0, _, _, _, _ => none
 | k + 1, x4, x28, x29, x30 => if x30 < x29 then (if 0 ≤ x30 then (if x30 < (x28.length : Int) then (if (rdOf ByteArray.empty x28 x30).toList = ([] : List UInt8) then (impl_PartsOf.l1 k x4 x28 x29 (wrap64 (x30 + 1))) else (if x4.length < 8796093022208 then (impl_PartsOf.l1 k (x4 ++ [rdOf ByteArray.empty x28 x30]) x28 x29 (wrap64 (x30 + 1))) else (none))) else (none)) else (none)) else (if (x4.length : Int) > 10 then (some (([] : List ByteArray), false)) else (some (x4, true)))
end
def impl_PartsOf.f (k : Nat) (a0 : ByteArray) : Option (List ByteArray × Bool) := if (a0.size : Int) > 600 then (some (([] : List ByteArray), false)) else (impl_PartsOf.l0 k a0 (a0.size : Int) 0)
theorem impl_PartsOf.mono_l : ∀ k, (∀ y0 y1 y2, LeO (impl_PartsOf.l0 k y0 y1 y2) (impl_PartsOf.l0 (k + 1) y0 y1 y2)) ∧ (∀ y0 y1 y2 y3, LeO (impl_PartsOf.l1 k y0 y1 y2 y3) (impl_PartsOf.l1 (k + 1) y0 y1 y2 y3))
 | 0 => ⟨fun _ _ _ r h => by simp [impl_PartsOf.l0] at h, fun _ _ _ _ r h => by simp [impl_PartsOf.l1] at h⟩
 | k + 1 => by
  obtain ⟨ih0, ih1⟩ := impl_PartsOf.mono_l k
  refine ⟨?_, ?_⟩
  ·intro y0 y1 y2
   unfold impl_PartsOf.l0
   repeat' first
   | (with_reducible exact ih0 _ _ _)
   | (with_reducible exact ih1 _ _ _ _)
   | (with_reducible exact LeO.refl _)
   | (with_reducible exact LeO.none _)
   | (with_reducible refine LeO.ite ?_ ?_)
   | (with_reducible refine LeO.bind ?_ (fun _ => ?_))
   | exact ih0 _ _ _
   | exact ih1 _ _ _ _
   | exact LeO.none _
   | refine LeO.ite ?_ ?_
   | refine LeO.bind ?_ (fun _ => ?_)
  ·intro y0 y1 y2 y3
   unfold impl_PartsOf.l1
   repeat' first
   | (with_reducible exact ih0 _ _ _)
   | (with_reducible exact ih1 _ _ _ _)
   | (with_reducible exact LeO.refl _)
   | (with_reducible exact LeO.none _)
   | (with_reducible refine LeO.ite ?_ ?_)
   | (with_reducible refine LeO.bind ?_ (fun _ => ?_))
   | exact ih0 _ _ _
   | exact ih1 _ _ _ _
   | exact LeO.none _
   | refine LeO.ite ?_ ?_
   | refine LeO.bind ?_ (fun _ => ?_)
theorem impl_PartsOf.mono : ∀ a0 k, LeO (impl_PartsOf.f k a0) (impl_PartsOf.f (k + 1) a0) := by
 intro a0 k
 obtain ⟨ih0, ih1⟩ := impl_PartsOf.mono_l k
 unfold impl_PartsOf.f
 repeat' first
   | (with_reducible exact ih0 _ _ _)
   | (with_reducible exact ih1 _ _ _ _)
   | (with_reducible exact LeO.refl _)
   | (with_reducible exact LeO.none _)
   | (with_reducible refine LeO.ite ?_ ?_)
   | (with_reducible refine LeO.bind ?_ (fun _ => ?_))
   | exact ih0 _ _ _
   | exact ih1 _ _ _ _
   | exact LeO.none _
   | refine LeO.ite ?_ ?_
   | refine LeO.bind ?_ (fun _ => ?_)
set_option maxHeartbeats 8000000 in
set_option maxRecDepth 100000 in
theorem impl_PartsOf.calls (k : Nat) (a0 : ByteArray) (r1 : List ByteArray) (r2 : Bool) (w : World) (h : impl_PartsOf.f k a0 = some (r1, r2)) (hM : MaxIs w) :
  Calls Tryd.prog 20 #[.string a0] w fun e w' => ∃ v0_ : Value, e = .returned (.tuple #[v0_, .bool r2]) ∧ Kd.R Kd.string 9 w' w.heap.size (fun _ => True) v0_ r1 ∧ Below w.heap.size w w' := by
 have HM := Aside0.mk hM
 clear hM
 have HB := Aside0.mk (Below.refl w.heap.size w)
 have H : (if (a0.size : Int) > 600 then (some (([] : List ByteArray), false)) else (impl_PartsOf.l0 k a0 (a0.size : Int) 0)) = some (r1, r2) := h
 clear h
 by_cases c2 : (a0.size : Int) > 600
 ·rw [if_pos c2] at H
  have c2b0 : decide (600 < (a0.size : Int)) = true := decide_eq_true c2
  have c2b1 : decide (600 < a0.size) = true := decide_eq_true (by omega)
  clear c2
  simp only [Option.some.injEq, Prod.mk.injEq] at H
  obtain ⟨rfl, rfl⟩ := H
  go_enter Tryd.func20, Tryd.ntmps20
  go_wp2
  go_ret2
  exact ⟨_, er_q, by first | exact Kd.R_nil _ _ _ _ _ | exact Kd.N_nil _ _ _ _ _ | exact Kd.V_nil _ _ _ _ _ | exact Kd.Q_nil _ _ _ _ _ | exact Kd.S_nil _ _ _ _ _, bw_q HB⟩
 ·rw [if_neg c2] at H
  have c2b0 : decide (600 < (a0.size : Int)) = false := decide_eq_false c2
  have c2b1 : decide (600 < a0.size) = false := decide_eq_false (by omega)
  clear c2
  have H' := Aside0.mk H
  clear H
  go_enter Tryd.func20, Tryd.ntmps20
  go_wp2
  go_loopg [13] k (fun kq v13 w' => ∃ (x13_1 : Int), v13 = .int .i64 x13_1 ∧ Aside0 (impl_PartsOf.l0 kq a0 (a0.size : Int) x13_1 = some (r1, r2)) ∧ Aside0 (kq ≤ k) ∧ Aside0 (Below w.heap.size w w'))
  case atStart => exact ⟨(0), (by first | rfl | (simp; done) | (simp [*]; done)), H', ⟨Nat.le_refl _⟩, ⟨bw_q HB⟩⟩
  case round =>
   clear H'
   try clear c2
   try clear c2b0
   try clear c2b1
   try clear p2
   obtain ⟨x13_1, rfl, HA, HK1, HB⟩ := hrel
   cases gk with
   | zero => exact absurd HA.out (by simp [impl_PartsOf.l0])
   | succ k1 =>
    have H := HA.out
    clear HA
    simp only [impl_PartsOf.l0] at H
    by_cases c3 : x13_1 < (a0.size : Int)
    ·rw [if_pos c3] at H
     have c3b0 : decide (x13_1 < (a0.size : Int)) = true := decide_eq_true c3
     clear c3
     by_cases c4 : 0 ≤ x13_1
     ·rw [if_pos c4] at H
      have c4b0 : decide (0 ≤ x13_1) = true := decide_eq_true c4
      clear c4
      by_cases c5 : x13_1 < (a0.size : Int)
      ·rw [if_pos c5] at H
       have c5b0 : decide (x13_1 < (a0.size : Int)) = true := decide_eq_true c5
       clear c5
       by_cases c7 : (bt a0 x13_1) < 32
       ·rw [if_pos c7] at H
        have c7b0 : decide ((bt a0 x13_1) < 32) = true := decide_eq_true c7
        clear c7
        simp only [Option.some.injEq, Prod.mk.injEq] at H
        obtain ⟨rfl, rfl⟩ := H
        have p6 : 0 ≤ (x13_1 : Int) := of_decide_eq_true as_q
        have q6 : x13_1 < (a0.size : Int) := of_decide_eq_true as_q
        have hx6 := bt_at a0 x13_1
        replace p6 := eq_true p6
        replace q6 := eq_true q6
        go_wp2
        go_ret2
        exact ⟨_, er_q, by first | exact Kd.R_nil _ _ _ _ _ | exact Kd.N_nil _ _ _ _ _ | exact Kd.V_nil _ _ _ _ _ | exact Kd.Q_nil _ _ _ _ _ | exact Kd.S_nil _ _ _ _ _, bw_q HB⟩
       ·rw [if_neg c7] at H
        have c7b0 : decide ((bt a0 x13_1) < 32) = false := decide_eq_false c7
        clear c7
        by_cases c9 : (bt a0 x13_1) > 126
        ·rw [if_pos c9] at H
         have c9b0 : decide (126 < (bt a0 x13_1)) = true := decide_eq_true c9
         clear c9
         simp only [Option.some.injEq, Prod.mk.injEq] at H
         obtain ⟨rfl, rfl⟩ := H
         have p6 : 0 ≤ (x13_1 : Int) := of_decide_eq_true as_q
         have q6 : x13_1 < (a0.size : Int) := of_decide_eq_true as_q
         have hx6 := bt_at a0 x13_1
         replace p6 := eq_true p6
         replace q6 := eq_true q6
         have p8 : 0 ≤ (x13_1 : Int) := of_decide_eq_true as_q
         have q8 : x13_1 < (a0.size : Int) := of_decide_eq_true as_q
         have hx8 := bt_at a0 x13_1
         replace p8 := eq_true p8
         replace q8 := eq_true q8
         go_wp2
         go_ret2
         exact ⟨_, er_q, by first | exact Kd.R_nil _ _ _ _ _ | exact Kd.N_nil _ _ _ _ _ | exact Kd.V_nil _ _ _ _ _ | exact Kd.Q_nil _ _ _ _ _ | exact Kd.S_nil _ _ _ _ _, bw_q HB⟩
        ·rw [if_neg c9] at H
         have c9b0 : decide (126 < (bt a0 x13_1)) = false := decide_eq_false c9
         clear c9
         have H' := Aside0.mk H
         clear H
         have p6 : 0 ≤ (x13_1 : Int) := of_decide_eq_true as_q
         have q6 : x13_1 < (a0.size : Int) := of_decide_eq_true as_q
         have hx6 := bt_at a0 x13_1
         replace p6 := eq_true p6
         replace q6 := eq_true q6
         have p8 : 0 ≤ (x13_1 : Int) := of_decide_eq_true as_q
         have q8 : x13_1 < (a0.size : Int) := of_decide_eq_true as_q
         have hx8 := bt_at a0 x13_1
         replace p8 := eq_true p8
         replace q8 := eq_true q8
         go_wp2
         go_roundg k1
         case measure => have := HK1.out; omega
         case rel => exact ⟨(wrap64 (x13_1 + 1)), (by first | rfl | (simp; done) | (simp [*]; done)), H', ⟨by have := HK1.out; omega⟩, ⟨bw_q HB⟩⟩
      ·rw [if_neg c5] at H
       exact absurd H (by simp)
     ·rw [if_neg c4] at H
      exact absurd H (by simp)
    ·rw [if_neg c3] at H
     have c3b0 : decide (x13_1 < (a0.size : Int)) = false := decide_eq_false c3
     clear c3
     replace H := Option.bind_eq_some_iff.mp H
     obtain ⟨t115, A100, H⟩ := H
     replace H : (impl_PartsOf.l1 k1 ([] : List ByteArray) t115 (t115.length : Int) 0) = some (r1, r2) := H
     have A10 := Aside0.mk A100
     clear A100
     have H' := Aside0.mk H
     clear H
     go_wp2_with (first | ((with_reducible refine gate_callee (f := 36) rfl ?_); refine goesL_ (some 28) rfl rfl Tryd.func36 (by kernel_rfl) rfl #[.string a0, .string (⟨#[32]⟩ : ByteArray)] rfl mp_q ?_; (with_reducible refine (strings_Split.calls a0 (⟨#[32]⟩ : ByteArray) t115 _ A10.out (MaxIs.below HM.out (bw_q HB))).mono ?_); rintro e w11 ⟨v116, rfl, ho0, hb⟩; refine ⟨_, rfl, ?_⟩; have HO117 := Aside0.mk (Kd.R_lower ho0 (below_size (bw_q HB))); replace HB := Aside0.mk (below_step (bw_q HB) hb); (try clear hb); (try clear hb2); (try clear hk); (try clear hi); (try clear ho0); obtain ⟨Ao12, co12, eo12⟩ := Kd.R_slice HO117.out; subst eo12))
     go_loopg [4, 30] k1 (fun kq v4 v30 w' => ∃ (x4_2 : List ByteArray) (x30_2 : Int), v30 = .int .i64 x30_2 ∧ Aside0 (impl_PartsOf.l1 kq x4_2 t115 (t115.length : Int) x30_2 = some (r1, r2)) ∧ Aside0 (kq ≤ k1) ∧ Aside0 (Kd.R Kd.string 9 w' w.heap.size (fun k_ => some k_ ≠ ((.slice Ao12 t115.length co12) : Value).ownBlock) v4 x4_2) ∧ Aside0 (Kd.R Kd.string 9 w' w.heap.size (fun k_ => some k_ ≠ (v4 : Value).ownBlock) (.slice Ao12 t115.length co12) t115) ∧ Aside0 (Below w.heap.size w w'))
     case atStart => exact ⟨(([] : List ByteArray)), (0), (by first | rfl | (simp; done) | (simp [*]; done)), H', ⟨Nat.le_refl _⟩, ⟨by first | exact Kd.R_nil _ _ _ _ _ | exact Kd.N_nil _ _ _ _ _ | exact Kd.V_nil _ _ _ _ _ | exact Kd.Q_nil _ _ _ _ _ | exact Kd.S_nil _ _ _ _ _⟩, ⟨by (with_reducible repeat (first | apply Kd.R_alloc | apply Kd.R_drewN | apply Kd.R_drew)); exact Kd.R_mono HO117.out (fun _ hk => (by simp [Value.ownBlock]))⟩, ⟨bw_q HB⟩⟩
     case round =>
      clear H'
      try clear c2
      try clear c2b0
      try clear c2b1
      try clear p2
      try clear c3
      try clear c3b0
      try clear c4
      try clear c4b0
      try clear c5
      try clear c5b0
      try clear p6
      try clear q6
      try clear hx6
      try clear c7
      try clear c7b0
      try clear p8
      try clear q8
      try clear hx8
      try clear c9
      try clear c9b0
      try clear p2
      try clear p6
      try clear p8
      try clear q6
      try clear q8
      obtain ⟨x4_2, x30_2, rfl, HA, HK2, HO_4, HO_28, HB⟩ := hrel
      cases gk with
      | zero => exact absurd HA.out (by simp [impl_PartsOf.l1])
      | succ k2 =>
       have H := HA.out
       clear HA
       simp only [impl_PartsOf.l1] at H
       by_cases c13 : x30_2 < (t115.length : Int)
       ·rw [if_pos c13] at H
        have c13b0 : decide (x30_2 < (t115.length : Int)) = true := decide_eq_true c13
        clear c13
        by_cases c14 : 0 ≤ x30_2
        ·rw [if_pos c14] at H
         have c14b0 : decide (0 ≤ x30_2) = true := decide_eq_true c14
         clear c14
         by_cases c15 : x30_2 < (t115.length : Int)
         ·rw [if_pos c15] at H
          have c15b0 : decide (x30_2 < (t115.length : Int)) = true := decide_eq_true c15
          clear c15
          by_cases c16 : (rdOf ByteArray.empty t115 x30_2).toList = ([] : List UInt8)
          ·rw [if_pos c16] at H
           have c16b0 : ((rdOf ByteArray.empty t115 x30_2).toList == ([] : List UInt8)) = true := beq_iff_eq.mpr c16
           have c16b1 : ((rdOf ByteArray.empty t115 x30_2).toList != ([] : List UInt8)) = false := bne_eq_false_iff_eq.mpr c16
           have c16b2 : ((rdOf ByteArray.empty t115 x30_2).toList).isEmpty = true := List.isEmpty_iff.mpr c16
           clear c16
           have H' := Aside0.mk H
           clear H
           have p118 : 0 ≤ (x30_2 : Int) := of_decide_eq_true as_q
           have q118 : x30_2 < (t115.length : Int) := of_decide_eq_true as_q
           obtain ⟨ad118, e118, hx118_0⟩ := Kd.at_string (Kd.R_reads' HO_28.out).2.2 x30_2 p118 q118
           cases e118
           replace p118 := eq_true p118
           replace q118 := eq_true q118
           go_wp2
           go_roundg k2
           case measure => have := HK1.out; have := HK2.out; omega
           case rel => exact ⟨(x4_2), (wrap64 (x30_2 + 1)), (by first | rfl | (simp; done) | (simp [*]; done)), H', ⟨by have := HK1.out; have := HK2.out; omega⟩, ⟨by (with_reducible repeat (first | apply Kd.R_alloc | apply Kd.R_drewN | apply Kd.R_drew)); exact HO_4.out⟩, ⟨by (with_reducible repeat (first | apply Kd.R_alloc | apply Kd.R_drewN | apply Kd.R_drew)); exact HO_28.out⟩, ⟨bw_q HB⟩⟩
          ·rw [if_neg c16] at H
           have c16b0 : ((rdOf ByteArray.empty t115 x30_2).toList == ([] : List UInt8)) = false := beq_eq_false_iff_ne.mpr c16
           have c16b1 : ((rdOf ByteArray.empty t115 x30_2).toList != ([] : List UInt8)) = true := bne_iff_ne.mpr c16
           have c16b2 : ((rdOf ByteArray.empty t115 x30_2).toList).isEmpty = false := Bool.eq_false_iff.mpr (fun h_ => c16 (List.isEmpty_iff.mp h_))
           by_cases c17 : x4_2.length < 8796093022208
           ·rw [if_pos c17] at H
            have LMc17 := Aside0.mk c17
            clear c17
            obtain ⟨y119, hy119⟩ : ∃ y_ : List ByteArray, y_ = (x4_2 ++ [rdOf ByteArray.empty t115 x30_2]) := ⟨_, rfl⟩
            replace H : (impl_PartsOf.l1 k2 y119 t115 (t115.length : Int) (wrap64 (x30_2 + 1))) = some (r1, r2) := by first | (rw [hy119]; with_reducible exact H) | (have H2_ := (Option.bind_some _ _).symm.trans H; rw [hy119]; with_reducible exact H2_) | (have H2_ := (Option.bind_some _ _).symm.trans H; with_reducible exact H2_) | with_reducible exact H | (rw [hy119]; exact H) | exact H
            have Ny119 := Aside0.mk hy119
            clear hy119
            have H' := Aside0.mk H
            clear H
            have p118 : 0 ≤ (x30_2 : Int) := of_decide_eq_true as_q
            have q118 : x30_2 < (t115.length : Int) := of_decide_eq_true as_q
            obtain ⟨ad118, e118, hx118_0⟩ := Kd.at_string (Kd.R_reads' HO_28.out).2.2 x30_2 p118 q118
            cases e118
            replace p118 := eq_true p118
            replace q118 := eq_true q118
            go_wp2_with (first | ((with_reducible refine gate_builtin (b := .append) (xs := #[.tmp 36, .tmp 38]) rfl ?_); at_builtin; refine Kd.R_append Kd.string (w0 := w) w.heap.size rfl (.tmp 36) (.tmp 38) 37 9 (.string ⟨#[]⟩) 16 rfl Tryd.underlying37 info9 rfl (by decide) (by omega) u4 x4_2 (rdOf ByteArray.empty t115 x30_2) [.string (rdOf ByteArray.empty t115 x30_2)] (fun k_ => some k_ ≠ (.slice (some ad118) t115.length co12 : Value).ownBlock) (fun _ => False) rfl rfl ?aP (fun _ hk => hk.elim) ?aF ?aO ?aB ?aS ?aL ?_; (case aP => exact rfl); (case aB => exact (bw_q HB)); (case aF => exact (fun k_ hk => Kd.fresh' (Kd.R_lt (kR_q HO_28)) k_ hk)); (case aO => exact (kR_q HO_4)); (case aS => exact (below_size (bw_q HB))); (case aL => have := LMc17.out; omega); intro v120 w18 ho hb hg hat; rw [← Ny119.out] at ho; replace HO_28 := Aside0.mk (Kd.R_after (ok := (fun _ => True)) (by (with_reducible repeat (first | apply Kd.R_alloc | apply Kd.R_drewN | apply Kd.R_drew)); exact Kd.R_mono HO_28.out (fun _ hk => ⟨trivial, hk⟩)) hg hat); replace HB := Aside0.mk (hb); have HO121 := Aside0.mk (ho); clear HO_4; clear ho hb hg hat))
            go_roundg k2
            case measure => have := HK1.out; have := HK2.out; omega
            case rel => exact ⟨(y119), (wrap64 (x30_2 + 1)), (by first | rfl | (simp; done) | (simp [*]; done)), H', ⟨by have := HK1.out; have := HK2.out; omega⟩, ⟨by (with_reducible repeat (first | apply Kd.R_alloc | apply Kd.R_drewN | apply Kd.R_drew)); exact HO121.out⟩, ⟨by (with_reducible repeat (first | apply Kd.R_alloc | apply Kd.R_drewN | apply Kd.R_drew)); exact Kd.R_mono HO_28.out (fun _ hk => hk.2)⟩, ⟨bw_q HB⟩⟩
           ·rw [if_neg c17] at H
            exact absurd H (by simp)
         ·rw [if_neg c15] at H
          exact absurd H (by simp)
        ·rw [if_neg c14] at H
         exact absurd H (by simp)
       ·rw [if_neg c13] at H
        have c13b0 : decide (x30_2 < (t115.length : Int)) = false := decide_eq_false c13
        clear c13
        by_cases c19 : (x4_2.length : Int) > 10
        ·rw [if_pos c19] at H
         have c19b0 : decide (10 < (x4_2.length : Int)) = true := decide_eq_true c19
         have c19b1 : decide (10 < x4_2.length) = true := decide_eq_true (by omega)
         clear c19
         simp only [Option.some.injEq, Prod.mk.injEq] at H
         obtain ⟨rfl, rfl⟩ := H
         obtain ⟨Ao20, co20, eo20⟩ := Kd.R_slice HO_4.out
         subst eo20
         go_wp2
         go_ret2
         exact ⟨_, er_q, by first | exact Kd.R_nil _ _ _ _ _ | exact Kd.N_nil _ _ _ _ _ | exact Kd.V_nil _ _ _ _ _ | exact Kd.Q_nil _ _ _ _ _ | exact Kd.S_nil _ _ _ _ _, bw_q HB⟩
        ·rw [if_neg c19] at H
         have c19b0 : decide (10 < (x4_2.length : Int)) = false := decide_eq_false c19
         have c19b1 : decide (10 < x4_2.length) = false := decide_eq_false (by omega)
         clear c19
         simp only [Option.some.injEq, Prod.mk.injEq] at H
         obtain ⟨rfl, rfl⟩ := H
         obtain ⟨Ao21, co21, eo21⟩ := Kd.R_slice HO_4.out
         subst eo21
         go_wp2
         go_ret2
         exact ⟨_, er_q, by (with_reducible repeat (first | apply Kd.R_alloc | apply Kd.R_drewN | apply Kd.R_drew)); exact Kd.R_mono HO_4.out (fun _ hk => trivial), bw_q HB⟩

end Go.Proofs.YtnecbkognpponaaDoor.Q
