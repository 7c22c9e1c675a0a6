import Derived.Test.YtnecbkognpponaaDoorXFnNumbersQspecl01Byte
import Derived.Test.YtnecbkognpponaaDoorXFnNumbersQspecl01Long
import Derived.Test.YtnecbkognpponaaDoorXFnNumbersQimplUnhex
import Derived.Lib.AtoiTie
/- A Go function as a Lean function, and its contract: for every input the Go code comes to what the Lean function tells. -/











namespace Go.Proofs.YtnecbkognpponaaDoor.Q
open Go.RowKit Go.Proofs.YtnecbkognpponaaDoorW.PrintWords Go.Proofs.YtnecbkognpponaaDoorW.PrintLast Go.Proofs.YtnecbkognpponaaDoorW.PrintMore
attribute [local go_sem] max2_int min2_int max_two min_two max_three min_three max_four min_four   -- for this text's walks alone
set_option linter.unusedVariables false
set_option linter.unusedSimpArgs false

/-! ### laws_FnNumbers: function 3 -/
mutual
def laws_FnNumbers.j0 : Nat → List Int → Int → Bool → Option (Bool)
 | 0, _, _, _ => none
 | k + 1, x0, x3, x30 => if x30 = true then (laws_FnNumbers.j1 k x0 12345) else (laws_FnNumbers.j1 k x0 x3)
def laws_FnNumbers.j1 : Nat → List Int → Int → Option (Bool)
 | 0, _, _ => none
 | k + 1, x0, x3 => (impl_VarText.f k x3).bind fun bt239 => (if 1 + bt239.1.size ≤ 9223372036854775807 then (if ((⟨#[120]⟩ : ByteArray) ++ bt239.1).size + 1 ≤ 9223372036854775807 then ((impl_ReadVar.f k (((⟨#[120]⟩ : ByteArray) ++ bt239.1) ++ (⟨#[121]⟩ : ByteArray)) 1).bind fun bt241 => ((impl_DecimalN.f x3).bind fun t244 => ((impl_ReadDecimalN.f t244).bind fun bt245 => ((spec_DrawHex.f k x0).bind fun t247 => (if (t247.size : Int) > 300 then (laws_FnNumbers.j2 k x3 bt239.1 bt239.2 bt241.1 bt241.2.1 bt241.2.2 bt245.1 bt245.2 (⟨#[97, 98, 99]⟩ : ByteArray)) else (laws_FnNumbers.j2 k x3 bt239.1 bt239.2 bt241.1 bt241.2.1 bt241.2.2 bt245.1 bt245.2 t247)))))) else (none)) else (none))
def laws_FnNumbers.j2 : Nat → Int → ByteArray → Bool → Int → Int → Bool → Int → Bool → ByteArray → Option (Bool)
 | 0, _, _, _, _, _, _, _, _, _ => none
 | k + 1, x3, x4, x5, x6, x7, x8, x9, x10, x11 => (impl_ShortText.f k x11).bind fun bt248 => ((impl_ReadShort.f k bt248.1 0).bind fun bt250 => ((impl_Hex.f k x11).bind fun bt253 => ((impl_Unhex.f k bt253.1).bind fun bt255 => (if x5 = true then (if x8 = true then (if x10 = true then (if bt248.2 = true then (if bt250.2.2 = true then (if bt253.2 = true then (if bt255.2 = true then (if x6 = x3 then (if x9 = x3 then (if x7 = (wrap64 ((x4.size : Int) + 1)) then (if bt250.1.toList = x11.toList then (if bt250.2.1 = (bt248.1.size : Int) then (some (bt255.1.toList == x11.toList)) else (some false)) else (some false)) else (some false)) else (some false)) else (some false)) else (some false)) else (some false)) else (some false)) else (some false)) else (some false)) else (some false)) else (some false)))))
end
def laws_FnNumbers.f (k : Nat) (l0 : List Int) : Option (Bool) := (laws_big.f l0).bind fun t237 => (if t237 = true then (some true) else ((spec_DrawVarText.f k l0).bind fun t238 => (if t238 < 0 then (laws_FnNumbers.j0 k l0 t238 true) else (laws_FnNumbers.j0 k l0 t238 (decide (t238 > 1000000000))))))
theorem laws_FnNumbers.mono_l : ∀ k, (∀ y0 y1 y2, LeO (laws_FnNumbers.j0 k y0 y1 y2) (laws_FnNumbers.j0 (k + 1) y0 y1 y2)) ∧ (∀ y0 y1, LeO (laws_FnNumbers.j1 k y0 y1) (laws_FnNumbers.j1 (k + 1) y0 y1)) ∧ (∀ y0 y1 y2 y3 y4 y5 y6 y7 y8, LeO (laws_FnNumbers.j2 k y0 y1 y2 y3 y4 y5 y6 y7 y8) (laws_FnNumbers.j2 (k + 1) y0 y1 y2 y3 y4 y5 y6 y7 y8))
 | 0 => ⟨fun _ _ _ r h => by simp [laws_FnNumbers.j0] at h, fun _ _ r h => by simp [laws_FnNumbers.j1] at h, fun _ _ _ _ _ _ _ _ _ r h => by simp [laws_FnNumbers.j2] at h⟩
 | k + 1 => by
  obtain ⟨ih0, ih1, ih2⟩ := laws_FnNumbers.mono_l k
  refine ⟨?_, ?_, ?_⟩
  ·intro y0 y1 y2
   unfold laws_FnNumbers.j0
   repeat' first
   | (with_reducible exact ih0 _ _ _)
   | (with_reducible exact ih1 _ _)
   | (with_reducible exact ih2 _ _ _ _ _ _ _ _ _)
   | (with_reducible exact impl_Hex.mono _ _)
   | (with_reducible exact impl_ReadShort.mono _ _ _)
   | (with_reducible exact impl_ReadVar.mono _ _ _)
   | (with_reducible exact impl_ShortText.mono _ _)
   | (with_reducible exact impl_Unhex.mono _ _)
   | (with_reducible exact impl_VarText.mono _ _)
   | (with_reducible exact spec_DrawHex.mono _ _)
   | (with_reducible exact spec_DrawVarText.mono _ _)
   | (with_reducible exact LeO.refl _)
   | (with_reducible exact LeO.none _)
   | (with_reducible refine LeO.ite ?_ ?_)
   | (with_reducible refine LeO.bind ?_ (fun _ => ?_))
   | exact ih0 _ _ _
   | exact ih1 _ _
   | exact ih2 _ _ _ _ _ _ _ _ _
   | exact impl_Hex.mono _ _
   | exact impl_ReadShort.mono _ _ _
   | exact impl_ReadVar.mono _ _ _
   | exact impl_ShortText.mono _ _
   | exact impl_Unhex.mono _ _
   | exact impl_VarText.mono _ _
   | exact spec_DrawHex.mono _ _
   | exact spec_DrawVarText.mono _ _
   | exact LeO.none _
   | refine LeO.ite ?_ ?_
   | refine LeO.bind ?_ (fun _ => ?_)
  ·intro y0 y1
   unfold laws_FnNumbers.j1
   repeat' first
   | (with_reducible exact ih0 _ _ _)
   | (with_reducible exact ih1 _ _)
   | (with_reducible exact ih2 _ _ _ _ _ _ _ _ _)
   | (with_reducible exact impl_Hex.mono _ _)
   | (with_reducible exact impl_ReadShort.mono _ _ _)
   | (with_reducible exact impl_ReadVar.mono _ _ _)
   | (with_reducible exact impl_ShortText.mono _ _)
   | (with_reducible exact impl_Unhex.mono _ _)
   | (with_reducible exact impl_VarText.mono _ _)
   | (with_reducible exact spec_DrawHex.mono _ _)
   | (with_reducible exact spec_DrawVarText.mono _ _)
   | (with_reducible exact LeO.refl _)
   | (with_reducible exact LeO.none _)
   | (with_reducible refine LeO.ite ?_ ?_)
   | (with_reducible refine LeO.bind ?_ (fun _ => ?_))
   | exact ih0 _ _ _
   | exact ih1 _ _
   | exact ih2 _ _ _ _ _ _ _ _ _
   | exact impl_Hex.mono _ _
   | exact impl_ReadShort.mono _ _ _
   | exact impl_ReadVar.mono _ _ _
   | exact impl_ShortText.mono _ _
   | exact impl_Unhex.mono _ _
   | exact impl_VarText.mono _ _
   | exact spec_DrawHex.mono _ _
   | exact spec_DrawVarText.mono _ _
   | exact LeO.none _
   | refine LeO.ite ?_ ?_
   | refine LeO.bind ?_ (fun _ => ?_)
  ·intro y0 y1 y2 y3 y4 y5 y6 y7 y8
   unfold laws_FnNumbers.j2
   repeat' first
   | (with_reducible exact ih0 _ _ _)
   | (with_reducible exact ih1 _ _)
   | (with_reducible exact ih2 _ _ _ _ _ _ _ _ _)
   | (with_reducible exact impl_Hex.mono _ _)
   | (with_reducible exact impl_ReadShort.mono _ _ _)
   | (with_reducible exact impl_ReadVar.mono _ _ _)
   | (with_reducible exact impl_ShortText.mono _ _)
   | (with_reducible exact impl_Unhex.mono _ _)
   | (with_reducible exact impl_VarText.mono _ _)
   | (with_reducible exact spec_DrawHex.mono _ _)
   | (with_reducible exact spec_DrawVarText.mono _ _)
   | (with_reducible exact LeO.refl _)
   | (with_reducible exact LeO.none _)
   | (with_reducible refine LeO.ite ?_ ?_)
   | (with_reducible refine LeO.bind ?_ (fun _ => ?_))
   | exact ih0 _ _ _
   | exact ih1 _ _
   | exact ih2 _ _ _ _ _ _ _ _ _
   | exact impl_Hex.mono _ _
   | exact impl_ReadShort.mono _ _ _
   | exact impl_ReadVar.mono _ _ _
   | exact impl_ShortText.mono _ _
   | exact impl_Unhex.mono _ _
   | exact impl_VarText.mono _ _
   | exact spec_DrawHex.mono _ _
   | exact spec_DrawVarText.mono _ _
   | exact LeO.none _
   | refine LeO.ite ?_ ?_
   | refine LeO.bind ?_ (fun _ => ?_)
theorem laws_FnNumbers.mono : ∀ a0 k, LeO (laws_FnNumbers.f k a0) (laws_FnNumbers.f (k + 1) a0) := by
 intro a0 k
 obtain ⟨ih0, ih1, ih2⟩ := laws_FnNumbers.mono_l k
 unfold laws_FnNumbers.f
 repeat' first
   | (with_reducible exact ih0 _ _ _)
   | (with_reducible exact ih1 _ _)
   | (with_reducible exact ih2 _ _ _ _ _ _ _ _ _)
   | (with_reducible exact impl_Hex.mono _ _)
   | (with_reducible exact impl_ReadShort.mono _ _ _)
   | (with_reducible exact impl_ReadVar.mono _ _ _)
   | (with_reducible exact impl_ShortText.mono _ _)
   | (with_reducible exact impl_Unhex.mono _ _)
   | (with_reducible exact impl_VarText.mono _ _)
   | (with_reducible exact spec_DrawHex.mono _ _)
   | (with_reducible exact spec_DrawVarText.mono _ _)
   | (with_reducible exact LeO.refl _)
   | (with_reducible exact LeO.none _)
   | (with_reducible refine LeO.ite ?_ ?_)
   | (with_reducible refine LeO.bind ?_ (fun _ => ?_))
   | exact ih0 _ _ _
   | exact ih1 _ _
   | exact ih2 _ _ _ _ _ _ _ _ _
   | exact impl_Hex.mono _ _
   | exact impl_ReadShort.mono _ _ _
   | exact impl_ReadVar.mono _ _ _
   | exact impl_ShortText.mono _ _
   | exact impl_Unhex.mono _ _
   | exact impl_VarText.mono _ _
   | exact spec_DrawHex.mono _ _
   | exact spec_DrawVarText.mono _ _
   | exact LeO.none _
   | refine LeO.ite ?_ ?_
   | refine LeO.bind ?_ (fun _ => ?_)
set_option maxHeartbeats 8000000 in
set_option maxRecDepth 100000 in
theorem laws_FnNumbers.calls (k : Nat) (A0 : Option Addr) (c0 : Nat) (l0 : List Int) (r : Bool) (w : World) (hr0 : Kd.C (Kd.int .u8) w A0 l0.length l0) (hc0 : l0.length ≤ c0) (hr_ : r = true) (h : laws_FnNumbers.f k l0 = some r) (hT : Tab w) (hE : Errs w) :
  Calls Tryd.prog 3 #[.slice A0 l0.length c0] w fun e w' => e = .returned (.bool r) ∧ Below w.heap.size w w' := by
 have HT := Aside0.mk hT
 have HE := Aside0.mk hE
 clear hT hE
 have HR0 := Aside0.mk hr0
 have HC0 := Aside0.mk hc0
 clear hr0 hc0
 have HB := Aside0.mk (Below.refl w.heap.size w)
 have H : ((laws_big.f l0).bind fun t237 => (if t237 = true then (some true) else ((spec_DrawVarText.f k l0).bind fun t238 => (if t238 < 0 then (laws_FnNumbers.j0 k l0 t238 true) else (laws_FnNumbers.j0 k l0 t238 (decide (t238 > 1000000000))))))) = some r := h
 clear h
 replace H := Option.bind_eq_some_iff.mp H
 obtain ⟨t237, A20, H⟩ := H
 replace H : (if t237 = true then (some true) else ((spec_DrawVarText.f k l0).bind fun t238 => (if t238 < 0 then (laws_FnNumbers.j0 k l0 t238 true) else (laws_FnNumbers.j0 k l0 t238 (decide (t238 > 1000000000)))))) = some r := H
 have A2 := Aside0.mk A20
 clear A20
 have HC3 := Aside0.mk H
 clear H
 go_enter Tryd.func3, Tryd.ntmps3
 go_upto_if 22 with (first | ((with_reducible refine gate_callee (f := 7) rfl ?_); refine goesL_ (some 22) rfl rfl Tryd.func7 (by kernel_rfl) rfl #[.slice A0 l0.length c0] rfl mp_q ?_; (with_reducible refine (laws_big.calls _ _ l0 t237 _ ?side1 ?side2 A2.out).mono ?_); (case side1 => repeat (first | exact HR0.out | (with_reducible refine Kd.C_alloc ?_ _) | (with_reducible refine Kd.C_drewN ?_ _) | (with_reducible refine Kd.C_drew ?_))); (case side2 => exact HC0.out); rintro e w' ⟨rfl, ⟨nd, rfl⟩⟩; refine ⟨_, rfl, ?_⟩))
 have H := HC3.out
 clear HC3
 by_cases c4 : t237 = true
 ·subst c4
  have H1 : (some true) = some r := by rw [if_pos rfl] at H; exact H
  clear H
  have H := H1
  clear H1
  obtain rfl := Option.some.inj H
  go_wp2
  go_ret
  exact ⟨er_q, bw_q HB⟩
 ·replace c4 := Bool.eq_false_iff.mpr c4
  subst c4
  have H1 : ((spec_DrawVarText.f k l0).bind fun t238 => (if t238 < 0 then (laws_FnNumbers.j0 k l0 t238 true) else (laws_FnNumbers.j0 k l0 t238 (decide (t238 > 1000000000))))) = some r := by rw [if_neg (show ¬ (false = true) by decide)] at H; exact H
  clear H
  have H := H1
  clear H1
  replace H := Option.bind_eq_some_iff.mp H
  obtain ⟨t238, A50, H⟩ := H
  replace H : (if t238 < 0 then (laws_FnNumbers.j0 k l0 t238 true) else (laws_FnNumbers.j0 k l0 t238 (decide (t238 > 1000000000)))) = some r := H
  have A5 := Aside0.mk A50
  clear A50
  have HC6 := Aside0.mk H
  clear H
  go_upto_region 4 with (first | ((with_reducible refine gate_callee (f := 8) rfl ?_); refine goesL_ (some 24) rfl rfl Tryd.func8 (by kernel_rfl) rfl #[.slice A0 l0.length c0] rfl mp_q ?_; (with_reducible refine (spec_DrawVarText.calls k _ _ l0 t238 _ ?side1 ?side2 A5.out).mono ?_); (case side1 => exact cs_q (Kd.C_below HR0.out HB.out)); (case side2 => exact HC0.out); rintro e w7 ⟨rfl, hb⟩; refine ⟨_, rfl, ?_⟩; replace HB := Aside0.mk (below_step (bw_q HB) hb); (try clear hb); (try clear hb2); (try clear hk); (try clear hi)))
  (try simp only [Act.put, List.setIfInBounds_toArray, List.set_cons_zero, List.set_cons_succ])
  go_cut [30] (fun v30 wc => ∃ (kq : Nat) (x30_5 : Bool), v30 = .bool x30_5 ∧ Aside0 (laws_FnNumbers.j0 kq l0 t238 x30_5 = some r) ∧ Aside0 (kq ≤ k) ∧ Aside0 (Below w.heap.size w wc))
  case first =>
   have H := HC6.out
   clear HC6
   by_cases c8 : t238 < 0
   ·rw [if_pos c8] at H
    have c8b0 : decide (t238 < 0) = true := decide_eq_true c8
    clear c8
    (first | rw [c8b0] | rw [c8b1] | (simp only [i64_w, i32_w]; first | rw [c8b0] | rw [c8b1]) | skip)
    have H' := Aside0.mk H
    clear H
    go_wp2
    go_meet
    case rel => exact ⟨_, (true), (by first | rfl | (simp; done) | (simp [*]; done)), H', ⟨by first | omega | exact Nat.le_refl _⟩, ⟨bw_q HB⟩⟩
   ·rw [if_neg c8] at H
    have c8b0 : decide (t238 < 0) = false := decide_eq_false c8
    clear c8
    (first | rw [c8b0] | rw [c8b1] | (simp only [i64_w, i32_w]; first | rw [c8b0] | rw [c8b1]) | skip)
    have H' := Aside0.mk H
    clear H
    go_wp2
    go_meet
    case rel => exact ⟨_, (decide (t238 > 1000000000)), (by first | rfl | (simp; done) | (simp [*]; done)), H', ⟨by first | omega | exact Nat.le_refl _⟩, ⟨bw_q HB⟩⟩
  case rest =>
   clear HC6
   try clear p2
   try clear c3
   try clear c4
   try clear c7
   try clear c8
   try clear c8b0
   try clear c8b1
   obtain ⟨kq, x30_5, rfl, HA, HJ5, HB⟩ := hcut
   cases kq with
   | zero => exact absurd HA.out (by simp [laws_FnNumbers.j0])
   | succ kj5 =>
    have H := HA.out
    clear HA
    simp only [laws_FnNumbers.j0] at H
    have HC9 := Aside0.mk H
    clear H
    go_upto_if 30 with (fail)
    go_cut [3] (fun v3 wc => ∃ (kq : Nat) (x3_8 : Int), v3 = .int .i64 x3_8 ∧ Aside0 (laws_FnNumbers.j1 kq l0 x3_8 = some r) ∧ Aside0 (kq ≤ kj5) ∧ Aside0 (Below w.heap.size w wc))
    case first =>
     have H := HC9.out
     clear HC9
     by_cases c10 : x30_5 = true
     ·subst c10
      have H1 : (laws_FnNumbers.j1 kj5 l0 12345) = some r := by rw [if_pos rfl] at H; exact H
      clear H
      have H := H1
      clear H1
      have H' := Aside0.mk H
      clear H
      go_wp2
      go_meet
      case rel => exact ⟨_, (12345), (by first | rfl | (simp; done) | (simp [*]; done)), H', ⟨by have := HJ5.out; first | omega | exact Nat.le_refl _⟩, ⟨bw_q HB⟩⟩
     ·replace c10 := Bool.eq_false_iff.mpr c10
      subst c10
      have H1 : (laws_FnNumbers.j1 kj5 l0 t238) = some r := by rw [if_neg (show ¬ (false = true) by decide)] at H; exact H
      clear H
      have H := H1
      clear H1
      have H' := Aside0.mk H
      clear H
      go_wp2
      go_meet
      case rel => exact ⟨_, (t238), (by first | rfl | (simp; done) | (simp [*]; done)), H', ⟨by have := HJ5.out; first | omega | exact Nat.le_refl _⟩, ⟨bw_q HB⟩⟩
    case rest =>
     clear HC9
     try clear c1
     try clear p2
     try clear c3
     try clear c4
     try clear c7
     try clear c8
     try clear c8b0
     try clear c8b1
     try clear c10
     try clear p2
     obtain ⟨kq, x3_8, rfl, HA, HJ8, HB⟩ := hcut
     cases kq with
     | zero => exact absurd HA.out (by simp [laws_FnNumbers.j1])
     | succ kj8 =>
      have H := HA.out
      clear HA
      simp only [laws_FnNumbers.j1] at H
      replace H := Option.bind_eq_some_iff.mp H
      obtain ⟨⟨t239, t240⟩, A110, H⟩ := H
      replace H : (if 1 + t239.size ≤ 9223372036854775807 then (if ((⟨#[120]⟩ : ByteArray) ++ t239).size + 1 ≤ 9223372036854775807 then ((impl_ReadVar.f kj8 (((⟨#[120]⟩ : ByteArray) ++ t239) ++ (⟨#[121]⟩ : ByteArray)) 1).bind fun bt241 => ((impl_DecimalN.f x3_8).bind fun t244 => ((impl_ReadDecimalN.f t244).bind fun bt245 => ((spec_DrawHex.f kj8 l0).bind fun t247 => (if (t247.size : Int) > 300 then (laws_FnNumbers.j2 kj8 x3_8 t239 t240 bt241.1 bt241.2.1 bt241.2.2 bt245.1 bt245.2 (⟨#[97, 98, 99]⟩ : ByteArray)) else (laws_FnNumbers.j2 kj8 x3_8 t239 t240 bt241.1 bt241.2.1 bt241.2.2 bt245.1 bt245.2 t247)))))) else (none)) else (none)) = some r := H
      have A11 := Aside0.mk A110
      clear A110
      by_cases c12 : 1 + t239.size ≤ 9223372036854775807
      ·rw [if_pos c12] at H
       have c12b0 := eq_true c12
       have c12b1 : decide (1 + t239.size ≤ 9223372036854775807) = true := decide_eq_true c12
       try have c12b2 : (9223372036854775807 < 1 + t239.size) = False := eq_false (Nat.not_lt.2 c12)
       try (have c12b3 := c12b2; simp only [ByteArray.size_append] at c12b3)
       by_cases c13 : ((⟨#[120]⟩ : ByteArray) ++ t239).size + 1 ≤ 9223372036854775807
       ·rw [if_pos c13] at H
        have c13b0 := eq_true c13
        have c13b1 : decide (((⟨#[120]⟩ : ByteArray) ++ t239).size + 1 ≤ 9223372036854775807) = true := decide_eq_true c13
        try have c13b2 : (9223372036854775807 < ((⟨#[120]⟩ : ByteArray) ++ t239).size + 1) = False := eq_false (Nat.not_lt.2 c13)
        try (have c13b3 := c13b2; simp only [ByteArray.size_append] at c13b3)
        have c13b4 : (9223372036854775807 < 1 + t239.size + 1) = False := by have z_ := c13b2; rw [ByteArray.size_append] at z_; exact z_
        replace H := Option.bind_eq_some_iff.mp H
        obtain ⟨⟨t241, t242, t243⟩, A140, H⟩ := H
        replace H : ((impl_DecimalN.f x3_8).bind fun t244 => ((impl_ReadDecimalN.f t244).bind fun bt245 => ((spec_DrawHex.f kj8 l0).bind fun t247 => (if (t247.size : Int) > 300 then (laws_FnNumbers.j2 kj8 x3_8 t239 t240 t241 t242 t243 bt245.1 bt245.2 (⟨#[97, 98, 99]⟩ : ByteArray)) else (laws_FnNumbers.j2 kj8 x3_8 t239 t240 t241 t242 t243 bt245.1 bt245.2 t247))))) = some r := H
        have A14 := Aside0.mk A140
        clear A140
        replace H := Option.bind_eq_some_iff.mp H
        obtain ⟨t244, A150, H⟩ := H
        replace H : ((impl_ReadDecimalN.f t244).bind fun bt245 => ((spec_DrawHex.f kj8 l0).bind fun t247 => (if (t247.size : Int) > 300 then (laws_FnNumbers.j2 kj8 x3_8 t239 t240 t241 t242 t243 bt245.1 bt245.2 (⟨#[97, 98, 99]⟩ : ByteArray)) else (laws_FnNumbers.j2 kj8 x3_8 t239 t240 t241 t242 t243 bt245.1 bt245.2 t247)))) = some r := H
        have A15 := Aside0.mk A150
        clear A150
        replace H := Option.bind_eq_some_iff.mp H
        obtain ⟨⟨t245, t246⟩, A160, H⟩ := H
        replace H : ((spec_DrawHex.f kj8 l0).bind fun t247 => (if (t247.size : Int) > 300 then (laws_FnNumbers.j2 kj8 x3_8 t239 t240 t241 t242 t243 t245 t246 (⟨#[97, 98, 99]⟩ : ByteArray)) else (laws_FnNumbers.j2 kj8 x3_8 t239 t240 t241 t242 t243 t245 t246 t247))) = some r := H
        have A16 := Aside0.mk A160
        clear A160
        replace H := Option.bind_eq_some_iff.mp H
        obtain ⟨t247, A170, H⟩ := H
        replace H : (if (t247.size : Int) > 300 then (laws_FnNumbers.j2 kj8 x3_8 t239 t240 t241 t242 t243 t245 t246 (⟨#[97, 98, 99]⟩ : ByteArray)) else (laws_FnNumbers.j2 kj8 x3_8 t239 t240 t241 t242 t243 t245 t246 t247)) = some r := H
        have A17 := Aside0.mk A170
        clear A170
        have HC18 := Aside0.mk H
        clear H
        go_upto_if 54 with (first | ((with_reducible refine gate_callee (f := 9) rfl ?_); refine goesL_ (some 33) rfl rfl Tryd.func9 (by kernel_rfl) rfl #[.int .i64 x3_8] rfl mp_q ?_; (with_reducible refine (impl_VarText.calls kj8 x3_8 t239 t240 _ A11.out).mono ?_); rintro e w19 ⟨rfl, hb⟩; refine ⟨_, rfl, ?_⟩; replace HB := Aside0.mk (below_step (bw_q HB) hb); (try clear hb); (try clear hb2); (try clear hk); (try clear hi)) | ((with_reducible refine gate_callee (f := 10) rfl ?_); refine goesL_ (some 40) rfl rfl Tryd.func10 (by kernel_rfl) rfl #[.string (((⟨#[120]⟩ : ByteArray) ++ t239) ++ (⟨#[121]⟩ : ByteArray)), .int .i64 1] rfl mp_q ?_; (with_reducible refine (impl_ReadVar.calls kj8 (((⟨#[120]⟩ : ByteArray) ++ t239) ++ (⟨#[121]⟩ : ByteArray)) 1 t241 t242 t243 _ A14.out).mono ?_); rintro e w' ⟨rfl, ⟨nd, rfl⟩⟩; refine ⟨_, rfl, ?_⟩) | ((with_reducible refine gate_callee (f := 12) rfl ?_); refine goesL_ (some 46) rfl rfl Tryd.func12 (by kernel_rfl) rfl #[.int .i64 x3_8] rfl mp_q ?_; (with_reducible refine (impl_DecimalN.calls x3_8 t244 _ A15.out (Tab.below HT.out (bw_q HB))).mono ?_); rintro e w20 ⟨rfl, hb⟩; refine ⟨_, rfl, ?_⟩; replace HB := Aside0.mk (below_step (bw_q HB) hb); (try clear hb); (try clear hb2); (try clear hk); (try clear hi)) | ((with_reducible refine gate_callee (f := 11) rfl ?_); refine goesL_ (some 47) rfl rfl Tryd.func11 (by kernel_rfl) rfl #[.string t244] rfl mp_q ?_; (with_reducible refine (impl_ReadDecimalN.calls t244 t245 t246 _ A16.out (Tab.below HT.out (bw_q HB)) (Errs.below HE.out (bw_q HB))).mono ?_); rintro e w21 ⟨rfl, hb⟩; refine ⟨_, rfl, ?_⟩; replace HB := Aside0.mk (below_step (bw_q HB) hb); (try clear hb); (try clear hb2); (try clear hk); (try clear hi)) | ((with_reducible refine gate_callee (f := 13) rfl ?_); refine goesL_ (some 51) rfl rfl Tryd.func13 (by kernel_rfl) rfl #[.slice A0 l0.length c0] rfl mp_q ?_; (with_reducible refine (spec_DrawHex.calls kj8 _ _ l0 t247 _ ?side1 ?side2 A17.out).mono ?_); (case side1 => exact cs_q (Kd.C_below HR0.out HB.out)); (case side2 => exact HC0.out); rintro e w22 ⟨rfl, hb⟩; refine ⟨_, rfl, ?_⟩; replace HB := Aside0.mk (below_step (bw_q HB) hb); (try clear hb); (try clear hb2); (try clear hk); (try clear hi)))
        (try simp only [Act.put, List.setIfInBounds_toArray, List.set_cons_zero, List.set_cons_succ])
        go_cut [11] (fun v11 wc => ∃ (kq : Nat) (x11_17 : ByteArray), v11 = .string x11_17 ∧ Aside0 (laws_FnNumbers.j2 kq x3_8 t239 t240 t241 t242 t243 t245 t246 x11_17 = some r) ∧ Aside0 (kq ≤ kj8) ∧ Aside0 (Below w.heap.size w wc))
        case first =>
         have H := HC18.out
         clear HC18
         by_cases c23 : (t247.size : Int) > 300
         ·rw [if_pos c23] at H
          have c23b0 : decide (300 < (t247.size : Int)) = true := decide_eq_true c23
          have c23b1 : decide (300 < t247.size) = true := decide_eq_true (by omega)
          clear c23
          (first | rw [c23b0] | rw [c23b1] | (simp only [i64_w, i32_w]; first | rw [c23b0] | rw [c23b1]) | skip)
          have H' := Aside0.mk H
          clear H
          go_wp2
          go_meet
          case rel => exact ⟨_, ((⟨#[97, 98, 99]⟩ : ByteArray)), (by first | rfl | (simp; done) | (simp [*]; done)), H', ⟨by have := HJ5.out; have := HJ8.out; first | omega | exact Nat.le_refl _⟩, ⟨bw_q HB⟩⟩
         ·rw [if_neg c23] at H
          have c23b0 : decide (300 < (t247.size : Int)) = false := decide_eq_false c23
          have c23b1 : decide (300 < t247.size) = false := decide_eq_false (by omega)
          clear c23
          (first | rw [c23b0] | rw [c23b1] | (simp only [i64_w, i32_w]; first | rw [c23b0] | rw [c23b1]) | skip)
          have H' := Aside0.mk H
          clear H
          go_wp2
          go_meet
          case rel => exact ⟨_, (t247), (by first | rfl | (simp; done) | (simp [*]; done)), H', ⟨by have := HJ5.out; have := HJ8.out; first | omega | exact Nat.le_refl _⟩, ⟨bw_q HB⟩⟩
        case rest =>
         clear HC18
         try clear c1
         try clear c2
         try clear p2
         try clear c3
         try clear c4
         try clear c7
         try clear c8
         try clear c8b0
         try clear c8b1
         try clear c9
         try clear c10
         try clear c11
         try clear c12
         try clear c12b0
         try clear c12b1
         try clear c12b2
         try clear c13
         try clear c13b0
         try clear c13b1
         try clear c13b2
         try clear c23
         try clear c23b0
         try clear c23b1
         try clear p2
         obtain ⟨kq, x11_17, rfl, HA, HJ17, HB⟩ := hcut
         cases kq with
         | zero => exact absurd HA.out (by simp [laws_FnNumbers.j2])
         | succ kj17 =>
          have H := HA.out
          clear HA
          simp only [laws_FnNumbers.j2] at H
          replace H := Option.bind_eq_some_iff.mp H
          obtain ⟨⟨t248, t249⟩, A240, H⟩ := H
          replace H : ((impl_ReadShort.f kj17 t248 0).bind fun bt250 => ((impl_Hex.f kj17 x11_17).bind fun bt253 => ((impl_Unhex.f kj17 bt253.1).bind fun bt255 => (if t240 = true then (if t243 = true then (if t246 = true then (if t249 = true then (if bt250.2.2 = true then (if bt253.2 = true then (if bt255.2 = true then (if t241 = x3_8 then (if t245 = x3_8 then (if t242 = (wrap64 ((t239.size : Int) + 1)) then (if bt250.1.toList = x11_17.toList then (if bt250.2.1 = (t248.size : Int) then (some (bt255.1.toList == x11_17.toList)) else (some false)) else (some false)) else (some false)) else (some false)) else (some false)) else (some false)) else (some false)) else (some false)) else (some false)) else (some false)) else (some false)) else (some false))))) = some r := H
          have A24 := Aside0.mk A240
          clear A240
          replace H := Option.bind_eq_some_iff.mp H
          obtain ⟨⟨t250, t251, t252⟩, A250, H⟩ := H
          replace H : ((impl_Hex.f kj17 x11_17).bind fun bt253 => ((impl_Unhex.f kj17 bt253.1).bind fun bt255 => (if t240 = true then (if t243 = true then (if t246 = true then (if t249 = true then (if t252 = true then (if bt253.2 = true then (if bt255.2 = true then (if t241 = x3_8 then (if t245 = x3_8 then (if t242 = (wrap64 ((t239.size : Int) + 1)) then (if t250.toList = x11_17.toList then (if t251 = (t248.size : Int) then (some (bt255.1.toList == x11_17.toList)) else (some false)) else (some false)) else (some false)) else (some false)) else (some false)) else (some false)) else (some false)) else (some false)) else (some false)) else (some false)) else (some false)) else (some false)))) = some r := H
          have A25 := Aside0.mk A250
          clear A250
          replace H := Option.bind_eq_some_iff.mp H
          obtain ⟨⟨t253, t254⟩, A260, H⟩ := H
          replace H : ((impl_Unhex.f kj17 t253).bind fun bt255 => (if t240 = true then (if t243 = true then (if t246 = true then (if t249 = true then (if t252 = true then (if t254 = true then (if bt255.2 = true then (if t241 = x3_8 then (if t245 = x3_8 then (if t242 = (wrap64 ((t239.size : Int) + 1)) then (if t250.toList = x11_17.toList then (if t251 = (t248.size : Int) then (some (bt255.1.toList == x11_17.toList)) else (some false)) else (some false)) else (some false)) else (some false)) else (some false)) else (some false)) else (some false)) else (some false)) else (some false)) else (some false)) else (some false)) else (some false))) = some r := H
          have A26 := Aside0.mk A260
          clear A260
          replace H := Option.bind_eq_some_iff.mp H
          obtain ⟨⟨t255, t256⟩, A270, H⟩ := H
          replace H : (if t240 = true then (if t243 = true then (if t246 = true then (if t249 = true then (if t252 = true then (if t254 = true then (if t256 = true then (if t241 = x3_8 then (if t245 = x3_8 then (if t242 = (wrap64 ((t239.size : Int) + 1)) then (if t250.toList = x11_17.toList then (if t251 = (t248.size : Int) then (some (t255.toList == x11_17.toList)) else (some false)) else (some false)) else (some false)) else (some false)) else (some false)) else (some false)) else (some false)) else (some false)) else (some false)) else (some false)) else (some false)) else (some false)) = some r := H
          have A27 := Aside0.mk A270
          clear A270
          by_cases c28 : t240 = true
          ·subst c28
           have H1 : (if t243 = true then (if t246 = true then (if t249 = true then (if t252 = true then (if t254 = true then (if t256 = true then (if t241 = x3_8 then (if t245 = x3_8 then (if t242 = (wrap64 ((t239.size : Int) + 1)) then (if t250.toList = x11_17.toList then (if t251 = (t248.size : Int) then (some (t255.toList == x11_17.toList)) else (some false)) else (some false)) else (some false)) else (some false)) else (some false)) else (some false)) else (some false)) else (some false)) else (some false)) else (some false)) else (some false)) = some r := by rw [if_pos rfl] at H; exact H
           clear H
           have H := H1
           clear H1
           by_cases c29 : t243 = true
           ·subst c29
            have H1 : (if t246 = true then (if t249 = true then (if t252 = true then (if t254 = true then (if t256 = true then (if t241 = x3_8 then (if t245 = x3_8 then (if t242 = (wrap64 ((t239.size : Int) + 1)) then (if t250.toList = x11_17.toList then (if t251 = (t248.size : Int) then (some (t255.toList == x11_17.toList)) else (some false)) else (some false)) else (some false)) else (some false)) else (some false)) else (some false)) else (some false)) else (some false)) else (some false)) else (some false)) = some r := by rw [if_pos rfl] at H; exact H
            clear H
            have H := H1
            clear H1
            by_cases c30 : t246 = true
            ·subst c30
             have H1 : (if t249 = true then (if t252 = true then (if t254 = true then (if t256 = true then (if t241 = x3_8 then (if t245 = x3_8 then (if t242 = (wrap64 ((t239.size : Int) + 1)) then (if t250.toList = x11_17.toList then (if t251 = (t248.size : Int) then (some (t255.toList == x11_17.toList)) else (some false)) else (some false)) else (some false)) else (some false)) else (some false)) else (some false)) else (some false)) else (some false)) else (some false)) = some r := by rw [if_pos rfl] at H; exact H
             clear H
             have H := H1
             clear H1
             by_cases c31 : t249 = true
             ·subst c31
              have H1 : (if t252 = true then (if t254 = true then (if t256 = true then (if t241 = x3_8 then (if t245 = x3_8 then (if t242 = (wrap64 ((t239.size : Int) + 1)) then (if t250.toList = x11_17.toList then (if t251 = (t248.size : Int) then (some (t255.toList == x11_17.toList)) else (some false)) else (some false)) else (some false)) else (some false)) else (some false)) else (some false)) else (some false)) else (some false)) = some r := by rw [if_pos rfl] at H; exact H
              clear H
              have H := H1
              clear H1
              by_cases c32 : t252 = true
              ·subst c32
               have H1 : (if t254 = true then (if t256 = true then (if t241 = x3_8 then (if t245 = x3_8 then (if t242 = (wrap64 ((t239.size : Int) + 1)) then (if t250.toList = x11_17.toList then (if t251 = (t248.size : Int) then (some (t255.toList == x11_17.toList)) else (some false)) else (some false)) else (some false)) else (some false)) else (some false)) else (some false)) else (some false)) = some r := by rw [if_pos rfl] at H; exact H
               clear H
               have H := H1
               clear H1
               by_cases c33 : t254 = true
               ·subst c33
                have H1 : (if t256 = true then (if t241 = x3_8 then (if t245 = x3_8 then (if t242 = (wrap64 ((t239.size : Int) + 1)) then (if t250.toList = x11_17.toList then (if t251 = (t248.size : Int) then (some (t255.toList == x11_17.toList)) else (some false)) else (some false)) else (some false)) else (some false)) else (some false)) else (some false)) = some r := by rw [if_pos rfl] at H; exact H
                clear H
                have H := H1
                clear H1
                by_cases c34 : t256 = true
                ·subst c34
                 have H1 : (if t241 = x3_8 then (if t245 = x3_8 then (if t242 = (wrap64 ((t239.size : Int) + 1)) then (if t250.toList = x11_17.toList then (if t251 = (t248.size : Int) then (some (t255.toList == x11_17.toList)) else (some false)) else (some false)) else (some false)) else (some false)) else (some false)) = some r := by rw [if_pos rfl] at H; exact H
                 clear H
                 have H := H1
                 clear H1
                 by_cases c35 : t241 = x3_8
                 ·rw [if_pos c35] at H
                  have c35b0 : (t241 == x3_8) = true := beq_iff_eq.mpr c35
                  have c35b1 : (t241 != x3_8) = false := bne_eq_false_iff_eq.mpr c35
                  clear c35
                  by_cases c36 : t245 = x3_8
                  ·rw [if_pos c36] at H
                   have c36b0 : (t245 == x3_8) = true := beq_iff_eq.mpr c36
                   have c36b1 : (t245 != x3_8) = false := bne_eq_false_iff_eq.mpr c36
                   clear c36
                   by_cases c37 : t242 = (wrap64 ((t239.size : Int) + 1))
                   ·rw [if_pos c37] at H
                    have c37b0 : (t242 == (wrap64 ((t239.size : Int) + 1))) = true := beq_iff_eq.mpr c37
                    have c37b1 : (t242 != (wrap64 ((t239.size : Int) + 1))) = false := bne_eq_false_iff_eq.mpr c37
                    clear c37
                    by_cases c38 : t250.toList = x11_17.toList
                    ·rw [if_pos c38] at H
                     have c38b0 : (t250.toList == x11_17.toList) = true := beq_iff_eq.mpr c38
                     have c38b1 : (t250.toList != x11_17.toList) = false := bne_eq_false_iff_eq.mpr c38
                     clear c38
                     by_cases c39 : t251 = (t248.size : Int)
                     ·rw [if_pos c39] at H
                      have c39b0 : (t251 == (t248.size : Int)) = true := beq_iff_eq.mpr c39
                      have c39b1 : (t251 != (t248.size : Int)) = false := bne_eq_false_iff_eq.mpr c39
                      clear c39
                      obtain rfl := Option.some.inj H
                      go_wp2_with (first | ((with_reducible refine gate_callee (f := 14) rfl ?_); refine goesL_ (some 57) rfl rfl Tryd.func14 (by kernel_rfl) rfl #[.string x11_17] rfl mp_q ?_; (with_reducible refine (impl_ShortText.calls kj17 x11_17 t248 true _ A24.out).mono ?_); rintro e w40 ⟨rfl, hb⟩; refine ⟨_, rfl, ?_⟩; replace HB := Aside0.mk (below_step (bw_q HB) hb); (try clear hb); (try clear hb2); (try clear hk); (try clear hi)) | ((with_reducible refine gate_callee (f := 15) rfl ?_); refine goesL_ (some 62) rfl rfl Tryd.func15 (by kernel_rfl) rfl #[.string t248, .int .i64 0] rfl mp_q ?_; (with_reducible refine (impl_ReadShort.calls kj17 t248 0 t250 t251 true _ A25.out).mono ?_); rintro e w' ⟨rfl, ⟨nd, rfl⟩⟩; refine ⟨_, rfl, ?_⟩) | ((with_reducible refine gate_callee (f := 16) rfl ?_); refine goesL_ (some 68) rfl rfl Tryd.func16 (by kernel_rfl) rfl #[.string x11_17] rfl mp_q ?_; (with_reducible refine (impl_Hex.calls kj17 x11_17 t253 true _ A26.out).mono ?_); rintro e w41 ⟨rfl, hb⟩; refine ⟨_, rfl, ?_⟩; replace HB := Aside0.mk (below_step (bw_q HB) hb); (try clear hb); (try clear hb2); (try clear hk); (try clear hi)) | ((with_reducible refine gate_callee (f := 17) rfl ?_); refine goesL_ (some 73) rfl rfl Tryd.func17 (by kernel_rfl) rfl #[.string t253] rfl mp_q ?_; (with_reducible refine (impl_Unhex.calls kj17 t253 t255 true _ A27.out).mono ?_); rintro e w42 ⟨rfl, hb⟩; refine ⟨_, rfl, ?_⟩; replace HB := Aside0.mk (below_step (bw_q HB) hb); (try clear hb); (try clear hb2); (try clear hk); (try clear hi)))
                      go_ret
                      exact ⟨er_q, bw_q HB⟩
                     ·rw [if_neg c39] at H
                      have c39b0 : (t251 == (t248.size : Int)) = false := beq_eq_false_iff_ne.mpr c39
                      have c39b1 : (t251 != (t248.size : Int)) = true := bne_iff_ne.mpr c39
                      exact absurd (Option.some.inj H) (by rw [hr_]; decide)
                    ·rw [if_neg c38] at H
                     have c38b0 : (t250.toList == x11_17.toList) = false := beq_eq_false_iff_ne.mpr c38
                     have c38b1 : (t250.toList != x11_17.toList) = true := bne_iff_ne.mpr c38
                     exact absurd (Option.some.inj H) (by rw [hr_]; decide)
                   ·rw [if_neg c37] at H
                    have c37b0 : (t242 == (wrap64 ((t239.size : Int) + 1))) = false := beq_eq_false_iff_ne.mpr c37
                    have c37b1 : (t242 != (wrap64 ((t239.size : Int) + 1))) = true := bne_iff_ne.mpr c37
                    exact absurd (Option.some.inj H) (by rw [hr_]; decide)
                  ·rw [if_neg c36] at H
                   have c36b0 : (t245 == x3_8) = false := beq_eq_false_iff_ne.mpr c36
                   have c36b1 : (t245 != x3_8) = true := bne_iff_ne.mpr c36
                   exact absurd (Option.some.inj H) (by rw [hr_]; decide)
                 ·rw [if_neg c35] at H
                  have c35b0 : (t241 == x3_8) = false := beq_eq_false_iff_ne.mpr c35
                  have c35b1 : (t241 != x3_8) = true := bne_iff_ne.mpr c35
                  exact absurd (Option.some.inj H) (by rw [hr_]; decide)
                ·replace c34 := Bool.eq_false_iff.mpr c34
                 subst c34
                 have H1 : (some false) = some r := by rw [if_neg (show ¬ (false = true) by decide)] at H; exact H
                 clear H
                 have H := H1
                 clear H1
                 exact absurd (Option.some.inj H) (by rw [hr_]; decide)
               ·replace c33 := Bool.eq_false_iff.mpr c33
                subst c33
                have H1 : (some false) = some r := by rw [if_neg (show ¬ (false = true) by decide)] at H; exact H
                clear H
                have H := H1
                clear H1
                exact absurd (Option.some.inj H) (by rw [hr_]; decide)
              ·replace c32 := Bool.eq_false_iff.mpr c32
               subst c32
               have H1 : (some false) = some r := by rw [if_neg (show ¬ (false = true) by decide)] at H; exact H
               clear H
               have H := H1
               clear H1
               exact absurd (Option.some.inj H) (by rw [hr_]; decide)
             ·replace c31 := Bool.eq_false_iff.mpr c31
              subst c31
              have H1 : (some false) = some r := by rw [if_neg (show ¬ (false = true) by decide)] at H; exact H
              clear H
              have H := H1
              clear H1
              exact absurd (Option.some.inj H) (by rw [hr_]; decide)
            ·replace c30 := Bool.eq_false_iff.mpr c30
             subst c30
             have H1 : (some false) = some r := by rw [if_neg (show ¬ (false = true) by decide)] at H; exact H
             clear H
             have H := H1
             clear H1
             exact absurd (Option.some.inj H) (by rw [hr_]; decide)
           ·replace c29 := Bool.eq_false_iff.mpr c29
            subst c29
            have H1 : (some false) = some r := by rw [if_neg (show ¬ (false = true) by decide)] at H; exact H
            clear H
            have H := H1
            clear H1
            exact absurd (Option.some.inj H) (by rw [hr_]; decide)
          ·replace c28 := Bool.eq_false_iff.mpr c28
           subst c28
           have H1 : (some false) = some r := by rw [if_neg (show ¬ (false = true) by decide)] at H; exact H
           clear H
           have H := H1
           clear H1
           exact absurd (Option.some.inj H) (by rw [hr_]; decide)
       ·rw [if_neg c13] at H
        exact absurd H (by simp)
      ·rw [if_neg c12] at H
       exact absurd H (by simp)

/-- THE ONE PURE STATEMENT of laws_FnNumbers: yours. -/
def laws_FnNumbers.Pure : Prop := ∀ (l0 : List Int), l0.length ≤ maxLen → l0.length * 1 ≤ 140737488351232 → (∀ x ∈ l0, (Lit.int .u8 x).wf = true) → ∃ k, laws_FnNumbers.f k l0 = some true
end Go.Proofs.YtnecbkognpponaaDoor.Q

/- What the specification's Decimal comes to, in plain Lean: for every int its numeral, as strconv.Itoa spells it; there are no other conditions. -/


set_option linter.unusedVariables false
set_option linter.unusedSimpArgs false
namespace Go.Proofs.YtnecbkognpponaaDoor.PureD
open Go.RowKit Go.Proofs.YtnecbkognpponaaDoor.Q Go.Proofs.YtnecbkognpponaaDoorW.PrintWords Go.Proofs.YtnecbkognpponaaDoorW.PrintLast
theorem w64 {x : Int} (h0 : -9223372036854775808 ≤ x) (h1 : x ≤ 9223372036854775807) : wrap64 x = x := by unfold wrap64; omega
theorem bt_b (s : ByteArray) (i : Int) : 0 ≤ bt s i ∧ bt s i < 256 := by have := bt_range s i; omega
theorem wbt (s : ByteArray) (i : Int) : wrap64 (bt s i) = bt s i := by have := bt_range s i; exact w64 (by omega) (by omega)
theorem tmodp {x m : Int} (h : 0 ≤ x) : Int.tmod x m = x % m := Int.tmod_eq_emod_of_nonneg h
theorem tdivp {x m : Int} (h : 0 ≤ x) : Int.tdiv x m = x / m := Int.tdiv_eq_ediv_of_nonneg h
/-- The bytes of a text, as numbers. -/
def B (s : ByteArray) : List Int := s.data.toList.map fun u => (u.toNat : Int)
def Byt (xs : List Int) : Prop := ∀ x ∈ xs, 0 ≤ x ∧ x < 256
theorem B_len (s : ByteArray) : (B s).length = s.size := by simp [B]
theorem B_byt (s : ByteArray) : Byt (B s) := by
  intro x hx
  obtain ⟨u, _, rfl⟩ := List.mem_map.1 hx
  have := u.toNat_lt
  omega
theorem B_str (xs : List Int) (h : Byt xs) : B (strOfNums xs) = xs := by
  simp only [B, strOfNums, List.map_map]
  conv => rhs; rw [← List.map_id xs]
  apply List.map_congr_left
  intro x hx
  have := h x hx
  simp only [Function.comp, UInt8.toNat_ofNat', id]
  omega
theorem str_B (s : ByteArray) : strOfNums (B s) = s := by
  apply Go.WideShapes.bytes_inj
  simp only [B, strOfNums, List.map_map]
  conv => rhs; rw [← List.map_id s.data.toList]
  apply List.map_congr_left
  intro x hx
  simp [Function.comp]
theorem B_inj {s t : ByteArray} (h : B s = B t) : s = t := by rw [← str_B s, ← str_B t, h]
theorem B_append (s t : ByteArray) : B (s ++ t) = B s ++ B t := by simp [B, ByteArray.data_append]
theorem B_extract (s : ByteArray) (a b : Nat) : B (s.extract a b) = ((B s).take b).drop a := by
  simp only [B, ByteArray.data_extract, Array.toList_extract, List.extract_eq_take_drop]
  rw [← List.map_take, ← List.map_drop, List.drop_take]
theorem B_bt (s : ByteArray) (i : Nat) (h : i < s.size) : (B s)[i]? = some (bt s i) := by
  have h' : i < s.data.toList.length := by rw [Array.length_toList]; exact h
  rw [B, List.getElem?_map, List.getElem?_eq_getElem h']
  simp [bt, h, ByteArray.getElem_eq_getElem_data]
theorem B_nil : B (⟨#[]⟩ : ByteArray) = [] := rfl
theorem tl_iff (s t : ByteArray) : s.toList = t.toList ↔ B s = B t := by
  rw [ByteArray.toList_eq, ByteArray.toList_eq]
  constructor
  · intro h; simp [B, h]
  · intro h; rw [B_inj h]
theorem byt_app {xs ys : List Int} (h : Byt xs) (k : Byt ys) : Byt (xs ++ ys) := by
  intro x hx
  rcases List.mem_append.1 hx with hx | hx
  · exact h x hx
  · exact k x hx
theorem wf_u32 {x : Int} (h : (Lit.int .u32 x).wf = true) : 0 ≤ x ∧ x < 4294967296 := by
  simp only [Lit.wf, IntKind.min, IntKind.max, IntKind.signed, IntKind.bits, Bool.and_eq_true, decide_eq_true_eq] at h
  simp at h
  omega
theorem wf_i64 {x : Int} (h : (Lit.int .i64 x).wf = true) : -9223372036854775808 ≤ x ∧ x ≤ 9223372036854775807 := by
  simp only [Lit.wf, IntKind.min, IntKind.max, IntKind.signed, IntKind.bits, Bool.and_eq_true, decide_eq_true_eq] at h
  simp at h
  omega
theorem ev_ex {α : Type} {g : Nat → Option α} {r : α} (h : Ev g r) : ∃ k, g k = some r := h.rounds
/-- The decimal digits of u, as numbers. -/
def dN (u : Nat) : List Int := (Lib.decDigits u).map fun x => (x.toNat : Int)
theorem u8n {x : Nat} (h : x < 256) : (UInt8.ofNat x).toNat = x := by simp [UInt8.toNat_ofNat']; omega
theorem dN_small {u : Nat} (h : u < 10) : dN u = [48 + (u : Int)] := by
  unfold dN; rw [Lib.decDigits, dif_pos h]
  simp only [List.map_cons, List.map_nil]
  rw [u8n (by omega)]; simp
theorem dN_big {u : Nat} (h : ¬ u < 10) : dN u = dN (u / 10) ++ [48 + ((u % 10 : Nat) : Int)] := by
  unfold dN; rw [Lib.decDigits, dif_neg h]
  simp only [List.map_append, List.map_cons, List.map_nil]
  rw [u8n (by omega)]; simp
theorem dN_dig : ∀ (d u : Nat), u < 10 ^ d → ∀ x ∈ dN u, 48 ≤ x ∧ x ≤ 57
  | 0, u, h => by
    have : u = 0 := by simpa using h
    subst this; rw [dN_small (by omega)]; simp
  | d + 1, u, h => by
    by_cases hs : u < 10
    · rw [dN_small hs]; intro x hx; simp at hx; omega
    · rw [dN_big hs]; intro x hx
      rcases List.mem_append.1 hx with hx | hx
      · exact dN_dig d (u / 10) (by rw [Nat.pow_succ] at h; omega) x hx
      · simp only [List.mem_singleton] at hx; omega
theorem dN_len : ∀ (d u : Nat), u < 10 ^ d → 1 ≤ (dN u).length ∧ (dN u).length ≤ d + 1
  | 0, u, h => by
    have : u = 0 := by simpa using h
    subst this; rw [dN_small (by omega)]; simp
  | d + 1, u, h => by
    by_cases hs : u < 10
    · rw [dN_small hs]; simp
    · rw [dN_big hs]
      have := dN_len d (u / 10) (by rw [Nat.pow_succ] at h; omega)
      simp only [List.length_append, List.length_cons, List.length_nil]; omega
theorem B_itoa (n : Int) : B (itoaB n) = (if n < 0 then 45 :: dN n.natAbs else dN n.natAbs) := by
  unfold B itoaB Lib.itoa dN
  by_cases h : n < 0
  · rw [if_pos h, if_pos h]; rfl
  · rw [if_neg h, if_neg h]
    have : n.toNat = n.natAbs := by omega
    rw [this]
theorem fig (x : Int) (h0 : 0 ≤ x) (h : x < 10) : spec_l01Figure.f x = some (48 + x) := by
  unfold spec_l01Figure.f; rw [if_pos h, w64 (by omega) (by omega)]; congr 1; omega
theorem one_size (x : Int) : (strOfNums [x]).size = 1 := by simp [strOfNums, ByteArray.size]
theorem dec_l0 (b : Bool) : ∀ (d : Nat) (n : Int) (s : ByteArray) (k : Nat), n ≠ 0 → n.natAbs < 10 ^ d → -9223372036854775808 ≤ n → n ≤ 9223372036854775807 → s.size + d ≤ 1000 → d < k →
    ∃ r, spec_Decimal.l0 k n b s = some r ∧ B r = (if b then [45] else []) ++ dN n.natAbs ++ B s
  | 0, n, s, k, hn, h, _, _, _, _ => by exfalso; simp at h; omega
  | d + 1, n, s, k, hn, h, h0, h1, hs, hk => by
    obtain ⟨k, rfl⟩ : ∃ m, k = m + 1 := ⟨k - 1, by omega⟩
    have hq : (Int.tdiv n 10).natAbs = n.natAbs / 10 := by rw [Int.natAbs_tdiv]; rfl
    have hr : (Int.tmod n 10).natAbs = n.natAbs % 10 := by simp [Int.natAbs_tmod]
    have hd : n = 10 * Int.tdiv n 10 + Int.tmod n 10 := (Int.mul_tdiv_add_tmod n 10).symm
    have hlt : n.natAbs / 10 < 10 ^ d := by rw [Nat.pow_succ] at h; omega
    have wq : wrap64 (Int.tdiv n 10) = Int.tdiv n 10 := w64 (by omega) (by omega)
    have key : ∀ x : Int, x = ((n.natAbs % 10 : Nat) : Int) → (strOfNums [48 + x]).size + s.size ≤ 9223372036854775807 ∧
        ∃ r, spec_Decimal.l0 k (Int.tdiv n 10) b (strOfNums [48 + x] ++ s) = some r ∧ B r = (if b then [45] else []) ++ dN n.natAbs ++ B s := by
      intro x hx
      have hB : B (strOfNums [48 + x] ++ s) = (48 + x) :: B s := by
        rw [B_append, B_str _ (by intro y hy; simp only [List.mem_singleton] at hy; omega)]; rfl
      refine ⟨by rw [one_size]; omega, ?_⟩
      by_cases hs10 : n.natAbs < 10
      · have hz : Int.tdiv n 10 = 0 := by omega
        obtain ⟨k, rfl⟩ : ∃ m, k = m + 1 := ⟨k - 1, by omega⟩
        rw [hz]
        simp only [spec_Decimal.l0, if_true]
        have hx' : n.natAbs % 10 = n.natAbs := by omega
        rw [hx'] at hx
        cases b with
        | true =>
          rw [if_pos rfl, if_pos (by rw [ByteArray.size_append, one_size]; omega)]
          refine ⟨_, rfl, ?_⟩
          rw [B_append, hB, dN_small hs10, hx]; rfl
        | false =>
          rw [if_neg (by decide)]
          refine ⟨_, rfl, ?_⟩
          rw [hB, dN_small hs10, hx]; rfl
      · obtain ⟨r, e, hB2⟩ := dec_l0 b d (Int.tdiv n 10) (strOfNums [48 + x] ++ s) k (by omega) (by rw [hq]; exact hlt) (by omega) (by omega) (by rw [ByteArray.size_append, one_size]; omega) (by omega)
        refine ⟨r, e, ?_⟩
        rw [hB2, hB, hq, dN_big hs10, hx]
        simp
    simp only [spec_Decimal.l0]
    rw [if_neg hn]
    by_cases hneg : Int.tmod n 10 < 0
    · have wr : wrap64 (-(Int.tmod n 10)) = -(Int.tmod n 10) := w64 (by omega) (by omega)
      rw [if_pos hneg, wr, fig _ (by omega) (by omega)]
      simp only [Option.bind_some]
      obtain ⟨c, r, e, hB⟩ := key (-(Int.tmod n 10)) (by omega)
      rw [if_pos c, wq]; exact ⟨r, e, hB⟩
    · rw [if_neg hneg, fig _ (by omega) (by omega)]
      simp only [Option.bind_some]
      obtain ⟨c, r, e, hB⟩ := key (Int.tmod n 10) (by omega)
      rw [if_pos c, wq]; exact ⟨r, e, hB⟩
/-- The specification's Decimal: the numeral, for every int. -/
theorem spec_dec (n : Int) (h0 : -9223372036854775808 ≤ n) (h1 : n ≤ 9223372036854775807) (k : Nat) (hk : 30 ≤ k) : spec_Decimal.f k n = some (itoaB n) := by
  unfold spec_Decimal.f
  by_cases hz : n = 0
  · subst hz; rw [if_pos rfl]; congr 1; apply B_inj; rw [B_itoa, if_neg (by omega), dN_small (by decide)]; rfl
  · rw [if_neg hz]
    obtain ⟨r, e, hB⟩ := dec_l0 (decide (n < 0)) 20 n ⟨#[]⟩ k hz (by omega) h0 h1 (by show 0 + 20 ≤ 1000; omega) (by omega)
    rw [e]; congr 1
    apply B_inj
    rw [hB, B_itoa, B_nil, List.append_nil]
    by_cases hn : n < 0
    · simp [hn]
    · simp [hn]
end Go.Proofs.YtnecbkognpponaaDoor.PureD

/- What the specification's ReadDecimal comes to, in plain Lean: for every text what the program's does; there are no other conditions. -/



set_option linter.unusedVariables false
set_option linter.unusedSimpArgs false
namespace Go.Proofs.YtnecbkognpponaaDoor.PureD
open Go.RowKit Go.Proofs.YtnecbkognpponaaDoor.Q Go.Proofs.YtnecbkognpponaaDoorW.PrintWords Go.Proofs.YtnecbkognpponaaDoorW.PrintLast
theorem decFrom_app : ∀ (l m : List UInt8) (a : Nat), Lib.decFrom a (l ++ m) = (Lib.decFrom a l).bind fun b => Lib.decFrom b m
  | [], m, a => rfl
  | c :: l, m, a => by
    simp only [List.cons_append, Lib.decFrom]
    cases Lib.digitVal c with
    | none => rfl
    | some d => exact decFrom_app l m _
theorem digitVal_of {x : Nat} (h : x < 10) : Lib.digitVal (UInt8.ofNat (48 + x)) = some x := by
  unfold Lib.digitVal; rw [u8n (by omega), if_pos (by omega)]; congr 1; omega
theorem decFrom_dec : ∀ (d u : Nat), u < 10 ^ d → Lib.decFrom 0 (Lib.decDigits u) = some u
  | 0, u, h => by
    have : u = 0 := by simpa using h
    subst this; rw [Lib.decDigits, dif_pos (by omega)]
    simp only [Lib.decFrom, digitVal_of (x := 0) (by omega)]
  | d + 1, u, h => by
    by_cases hs : u < 10
    · rw [Lib.decDigits, dif_pos hs]; simp only [Lib.decFrom, digitVal_of hs]; congr 1; omega
    · rw [Lib.decDigits, dif_neg hs, decFrom_app, decFrom_dec d (u / 10) (by rw [Nat.pow_succ] at h; omega)]
      simp only [Option.bind_some, Lib.decFrom, digitVal_of (x := u % 10) (by omega)]; congr 1; omega
theorem decDigits_ne (u : Nat) : Lib.decDigits u ≠ [] := by
  intro h
  have := Lib.decDigits_length u
  have := Lib.nDigits_pos u
  rw [h] at *; simp at *; omega
theorem dec_head {u : Nat} {b : UInt8} {r : List UInt8} (h : Lib.decDigits u = b :: r) : 48 ≤ b.toNat := by
  have hm : (b.toNat : Int) ∈ dN u := by unfold dN; rw [h]; simp
  have := dN_dig u u (Nat.lt_pow_self (by decide)) _ hm
  omega
theorem itoa_len {v : Int} (h0 : 0 ≤ v) (h1 : v ≤ 1000000000) : (Lib.itoa v).length ≤ 10 := by
  unfold Lib.itoa; rw [if_neg (by omega), Lib.decDigits_length]
  by_cases h : v = 1000000000
  · subst h
    rw [show Lib.nDigits (1000000000 : Int).toNat = 9 + 1 from Lib.nDigits_unique 9 _ (by decide) (by decide)]; omega
  · have hlt : v.toNat < 10 ^ 9 := by omega
    have := dN_len 9 v.toNat hlt
    unfold dN at this; rw [List.length_map, Lib.decDigits_length] at this; omega
theorem atoi_itoa {v : Int} (h0 : 0 ≤ v) (h1 : v ≤ 1000000000) : Lib.atoiAll (Lib.itoa v) = .ok v := by
  have hl := itoa_len h0 h1
  rw [Lib.atoiAll_short _ (by omega)]
  have ha : Lib.atoi (Lib.itoa v) = some v := by
    unfold Lib.itoa; rw [if_neg (by omega)]
    have hd := decFrom_dec v.toNat v.toNat (Nat.lt_pow_self (by decide))
    have hne := decDigits_ne v.toNat
    cases hc : Lib.decDigits v.toNat with
    | nil => exact absurd hc hne
    | cons b r =>
      have hb := dec_head hc
      have h45 : (b == 45) = false := by
        rw [beq_eq_false_iff_ne]; intro e; rw [e] at hb; revert hb; decide
      have h43 : (b == 43) = false := by
        rw [beq_eq_false_iff_ne]; intro e; rw [e] at hb; revert hb; decide
      simp only [Lib.atoi, h45, h43, Bool.false_eq_true, if_false]
      unfold Lib.decNat
      rw [if_neg (by simp), ← hc, hd]
      simp; omega
  rw [ha]; rfl
theorem list_itoaB (v : Int) : (itoaB v).data.toList = Lib.itoa v := rfl
theorem toList_eq (s t : ByteArray) : s.toList = t.toList ↔ s = t := by
  rw [tl_iff]; exact ⟨B_inj, fun h => by rw [h]⟩
/-- The program's answer, by what the text is. -/
theorem rdN_yes {v : Int} (h0 : 0 ≤ v) (h1 : v ≤ 1000000000) : rdN (itoaB v) = (v, true) := by
  unfold rdN; rw [list_itoaB, atoi_itoa h0 h1]
  simp only
  rw [if_pos h0, if_pos h1]; simp
theorem rdN_no (s : ByteArray) (h : ∀ v : Int, 0 ≤ v → v ≤ 1000000000 → s ≠ itoaB v) : rdN s = (0, false) := by
  unfold rdN
  cases ha : Lib.atoiAll s.data.toList with
  | «syntax» => rfl
  | range => rfl
  | ok v =>
    simp only
    by_cases h0 : 0 ≤ v
    · by_cases h1 : v ≤ 1000000000
      · rw [if_pos h0, if_pos h1, if_neg]
        intro e; exact h v h0 h1 ((toList_eq _ _).1 e).symm
      · rw [if_pos h0, if_neg h1]
    · rw [if_neg h0]
/-- The number that figures spell, behind a. -/
def valD (a : Int) : List Int → Int
  | [] => a
  | c :: r => valD (10 * a + (c - 48)) r
theorem valD_app (l m : List Int) : ∀ a, valD a (l ++ m) = valD (valD a l) m := by
  induction l with
  | nil => intro a; rfl
  | cons c l ih => intro a; simp only [List.cons_append, valD]; exact ih _
theorem valD_dN : ∀ (d u : Nat), u < 10 ^ d → valD 0 (dN u) = u
  | 0, u, h => by
    have : u = 0 := by simpa using h
    subst this; rw [dN_small (by omega)]; simp [valD]
  | d + 1, u, h => by
    by_cases hs : u < 10
    · rw [dN_small hs]; simp [valD]; omega
    · rw [dN_big hs, valD_app, valD_dN d (u / 10) (by rw [Nat.pow_succ] at h; omega)]
      simp only [valD]; omega
theorem drop_bt (s : ByteArray) (i : Nat) (h : i < s.size) : (B s).drop i = bt s i :: (B s).drop (i + 1) := by
  have hl : i < (B s).length := by rw [B_len]; exact h
  rw [List.drop_eq_getElem_cons hl]
  have := B_bt s i h
  rw [List.getElem?_eq_getElem hl] at this
  rw [Option.some.inj this]
/-- The specification's loop, from place i on. -/
theorem rd_loop (s : ByteArray) (hs : s.size ≤ 10) : ∀ (d i : Nat) (x : Int) (k : Nat), i + d = s.size → 0 ≤ x → x < 10 ^ i → d + 40 ≤ k →
    spec_ReadDecimal.l0 k s x i = some (if ∀ c ∈ (B s).drop i, 48 ≤ c ∧ c ≤ 57 then (if valD x ((B s).drop i) ≤ 1000000000 ∧ s = itoaB (valD x ((B s).drop i)) then (valD x ((B s).drop i), true) else (0, false)) else (0, false)) ∧ ((∀ c ∈ (B s).drop i, 48 ≤ c ∧ c ≤ 57) → 0 ≤ valD x ((B s).drop i))
  | 0, i, x, k, hd, h0, h1, hk => by
    obtain ⟨k, rfl⟩ : ∃ m, k = m + 1 := ⟨k - 1, by omega⟩
    have hi : i = s.size := by omega
    have hdrop : (B s).drop i = [] := by rw [List.drop_eq_nil_iff, B_len]; omega
    have hx : x < 10000000000 := by
      have : (10 : Int) ^ i ≤ 10 ^ 10 := by
        have := Nat.pow_le_pow_right (n := 10) (by decide) (show i ≤ 10 by omega)
        exact_mod_cast this
      have e : (10 : Int) ^ 10 = 10000000000 := by decide
      omega
    rw [hdrop]
    refine ⟨?_, fun _ => h0⟩
    rw [if_pos (by simp)]
    have hv0 : valD x [] = x := rfl
    rw [hv0]
    simp only [spec_ReadDecimal.l0]
    rw [if_neg (by omega)]
    by_cases hm : x > 1000000000
    · rw [if_pos hm, if_neg (fun h => absurd h.1 (by omega))]
    · rw [if_neg hm, spec_dec x (by omega) (by omega) k (by omega)]
      simp only [Option.bind_some]
      by_cases he : (itoaB x).toList = s.toList
      · rw [if_pos he, if_pos ⟨by omega, ((toList_eq _ _).1 he).symm⟩]
      · rw [if_neg he, if_neg (fun h => he ((toList_eq _ _).2 h.2.symm))]
  | d + 1, i, x, k, hd, h0, h1, hk => by
    obtain ⟨k, rfl⟩ : ∃ m, k = m + 1 := ⟨k - 1, by omega⟩
    have hi : i < s.size := by omega
    have hb := bt_b s i
    have hx : x < 10000000000 := by
      have : (10 : Int) ^ i ≤ 10 ^ 10 := by
        have := Nat.pow_le_pow_right (n := 10) (by decide) (show i ≤ 10 by omega)
        exact_mod_cast this
      have e : (10 : Int) ^ 10 = 10000000000 := by decide
      omega
    have hdr := drop_bt s i hi
    simp only [spec_ReadDecimal.l0]
    rw [if_pos (by omega), if_pos (by omega), hdr]
    by_cases hlo : bt s i < 48
    · rw [if_pos hlo, if_neg (by intro h; have := h (bt s i) (by simp); omega)]
      exact ⟨rfl, fun h => by have := h (bt s i) (by simp); omega⟩
    · rw [if_neg hlo]
      by_cases hhi : bt s i > 57
      · rw [if_pos hhi, if_neg (by intro h; have := h (bt s i) (by simp); omega)]
        exact ⟨rfl, fun h => by have := h (bt s i) (by simp); omega⟩
      · rw [if_neg hhi, wbt, w64 (x := 10 * x) (by omega) (by omega), w64 (x := 10 * x + bt s i) (by omega) (by omega), w64 (x := 10 * x + bt s i - 48) (by omega) (by omega), w64 (x := (i : Int) + 1) (by omega) (by omega)]
        have hp : (10 : Int) ^ (i + 1) = 10 ^ i * 10 := Int.pow_succ _ _
        obtain ⟨e, hv⟩ := rd_loop s hs d (i + 1) (10 * x + bt s i - 48) k (by omega) (by omega) (by omega) (by omega)
        have ec : ((i + 1 : Nat) : Int) = (i : Int) + 1 := by omega
        rw [ec] at e
        rw [e]
        have ev : valD x (bt s i :: (B s).drop (i + 1)) = valD (10 * x + bt s i - 48) ((B s).drop (i + 1)) := by
          simp only [valD]; congr 1; omega
        rw [ev]
        have iff : (∀ c ∈ bt s i :: (B s).drop (i + 1), 48 ≤ c ∧ c ≤ 57) ↔ ∀ c ∈ (B s).drop (i + 1), 48 ≤ c ∧ c ≤ 57 := by
          constructor
          · intro h c hc; exact h c (by simp [hc])
          · intro h c hc
            rcases List.mem_cons.1 hc with rfl | hc
            · exact ⟨by omega, by omega⟩
            · exact h c hc
        refine ⟨?_, fun h => hv (iff.1 h)⟩
        by_cases hall : ∀ c ∈ (B s).drop (i + 1), 48 ≤ c ∧ c ≤ 57
        · rw [if_pos hall, if_pos (iff.2 hall)]
        · rw [if_neg hall, if_neg (fun h => hall (iff.1 h))]
/-- The specification's ReadDecimal answers as the program's. -/
theorem spec_read (s : ByteArray) (hs : s.size ≤ 1048576) (k : Nat) (hk : 60 ≤ k) : spec_ReadDecimal.f k s = some (rdN s) := by
  unfold spec_ReadDecimal.f
  by_cases h10 : (s.size : Int) > 10
  · rw [if_pos h10, rdN_no]
    intro v h0 h1 e
    have := itoa_len h0 h1
    have e2 : s.size = (Lib.itoa v).length := by rw [e]; rfl
    omega
  · rw [if_neg h10]
    obtain ⟨e, hv⟩ := rd_loop s (by omega) s.size 0 0 k (by omega) (by omega) (by decide) (by omega)
    have e0 : ((0 : Nat) : Int) = 0 := rfl
    rw [e0, List.drop_zero] at e
    rw [List.drop_zero] at hv
    rw [e]
    congr 1
    by_cases hall : ∀ c ∈ B s, 48 ≤ c ∧ c ≤ 57
    · rw [if_pos hall]
      have h0 := hv hall
      by_cases hc : valD 0 (B s) ≤ 1000000000 ∧ s = itoaB (valD 0 (B s))
      · rw [if_pos hc]
        have := rdN_yes h0 hc.1
        rw [← hc.2] at this
        exact this.symm
      · rw [if_neg hc, rdN_no]
        intro v h0 h1 es
        have hB : B s = dN v.natAbs := by rw [es, B_itoa, if_neg (by omega)]
        have hval : valD 0 (B s) = v := by rw [hB, valD_dN v.natAbs v.natAbs (Nat.lt_pow_self (by decide))]; omega
        exact hc ⟨by omega, by rw [hval]; exact es⟩
    · rw [if_neg hall, rdN_no]
      intro v h0 h1 es
      apply hall
      rw [es, B_itoa, if_neg (by omega)]
      exact dN_dig v.natAbs v.natAbs (Nat.lt_pow_self (by decide))
end Go.Proofs.YtnecbkognpponaaDoor.PureD
