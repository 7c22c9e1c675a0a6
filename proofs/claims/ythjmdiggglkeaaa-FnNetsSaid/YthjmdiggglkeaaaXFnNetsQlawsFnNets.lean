import Derived.Test.YthjmdiggglkeaaaXFnNetsQimplless
import Derived.Test.YthjmdiggglkeaaaXFnNetsQimplNetOk
import Derived.Test.YthjmdiggglkeaaaXFnNetsQspecl03Put
import Derived.Test.YthjmdiggglkeaaaXFnNetsQimplwith
import Derived.Test.YthjmdiggglkeaaaXFnNetsQimplNextTo
import Derived.Test.YthjmdiggglkeaaaXFnNetsQimplCostTo
/- A Go function as a Lean function, and its contract: for every input the Go code comes to what the Lean function tells. -/










namespace Go.Proofs.Ythjmdiggglkeaaa.Q
open Go.RowKit Go.Proofs.YthjmdiggglkeaaaW.PrintWords Go.Proofs.YthjmdiggglkeaaaW.PrintLast Go.Proofs.YthjmdiggglkeaaaW.PrintMore
attribute [local go_sem] max2_int min2_int max_two min_two max_three min_three max_four min_four   -- for this text's walks alone
set_option linter.unusedVariables false
set_option linter.unusedSimpArgs false

/-! ### laws_FnNets: function 13 -/
mutual
def laws_FnNets.l0 : Nat → Int → Int → List (S93) → List (S102) → Option (Bool)
 | 0, _, _, _, _ => none
 | k + 1, x6, x342000, x342001, x342002 => if x6 ≤ x342000 then ((impl_AreasOf.f k x342000 x342001 x342002 x6).bind fun t343 => ((impl_Border.f k x342000 x342001 x342002 x6).bind fun t346 => ((laws_in.f k t343 0).bind fun t347 => (if t347 = true then (laws_FnNets.j1 k x6 t343 (t346 != (decide ((t343.length : Int) > 1))) x342000 x342001 x342002) else (laws_FnNets.j1 k x6 t343 (t346 != false) x342000 x342001 x342002))))) else (laws_FnNets.l3 k 0 x342000 x342001 x342002)
def laws_FnNets.j1 : Nat → Int → List Int → Bool → Int → List (S93) → List (S102) → Option (Bool)
 | 0, _, _, _, _, _, _ => none
 | k + 1, x6, x7, x44, x342000, x342001, x342002 => if x44 = true then (some false) else (laws_FnNets.l1 k x6 x7 0 x342000 x342001 x342002)
def laws_FnNets.l1 : Nat → Int → List Int → Int → Int → List (S93) → List (S102) → Option (Bool)
 | 0, _, _, _, _, _, _ => none
 | k + 1, x6, x7, x8, x342000, x342001, x342002 => if x8 ≤ 2 then ((impl_NextTo.f k x342000 x342001 x342002 x6 x8).bind fun t348 => ((laws_in.f k x7 x8).bind fun t351 => (if (t351 != (decide ((t348.length : Int) > 0))) = true then (some false) else (laws_FnNets.l2 k x6 x7 x8 t348 1 x342000 x342001 x342002)))) else (laws_FnNets.l0 k (wrap64 (x6 + 1)) x342000 x342001 x342002)
def laws_FnNets.l2 : Nat → Int → List Int → Int → List Int → Int → Int → List (S93) → List (S102) → Option (Bool)
 | 0, _, _, _, _, _, _, _, _ => none
 | k + 1, x6, x7, x8, x9, x10, x342000, x342001, x342002 => if x10 ≤ x342000 then ((impl_CostTo.f k x342000 x342001 x342002 x6 x10 x8).bind fun t352 => ((impl_CostTo.f k x342000 x342001 x342002 x10 x6 x8).bind fun t353 => (if t352 = t353 then ((laws_in.f k x9 x10).bind fun t354 => (if ((decide (t352 > 0)) != t354) = true then (some false) else (laws_FnNets.l2 k x6 x7 x8 x9 (wrap64 (x10 + 1)) x342000 x342001 x342002))) else (some false)))) else (laws_FnNets.l1 k x6 x7 (wrap64 (x8 + 1)) x342000 x342001 x342002)
def laws_FnNets.l3 : Nat → Int → Int → List (S93) → List (S102) → Option (Bool)
 | 0, _, _, _, _ => none
 | k + 1, x12, x342000, x342001, x342002 => if x12 < (x342001.length : Int) then (if 0 ≤ x12 then ((impl_LinkOk.f x342000 ((rd_T93 x342001 x12).f0) ((rd_T93 x342001 x12).f1) ((rd_T93 x342001 x12).f2) ((rd_T93 x342001 x12).f3)).bind fun t358 => (if t358 = true then ((impl_CostTo.f k x342000 x342001 x342002 ((rd_T93 x342001 x12).f0) ((rd_T93 x342001 x12).f1) ((rd_T93 x342001 x12).f3)).bind fun t359 => (if t359 = ((rd_T93 x342001 x12).f2) then (laws_FnNets.l3 k (wrap64 (x12 + 1)) x342000 x342001 x342002) else (some false))) else (some false))) else (none)) else ((impl_LinkOk.f x342000 2 1 1 0).bind fun t355 => (some (!t355)))
end
def laws_FnNets.f (k : Nat) (l0 : List Int) : Option (Bool) := (laws_big.f l0).bind fun t327 => (if t327 = true then (some true) else ((spec_DrawRightNet.f k l0).bind fun bt328 => ((impl_NetOk.f k bt328.1 bt328.2.1 bt328.2.2.1).bind fun t342 => (if t342 = true then (laws_FnNets.l0 k 1 bt328.1 bt328.2.1 bt328.2.2.1) else (some false)))))
theorem laws_FnNets.mono_l : ∀ k, (∀ y0 y1 y2 y3, LeO (laws_FnNets.l0 k y0 y1 y2 y3) (laws_FnNets.l0 (k + 1) y0 y1 y2 y3)) ∧ (∀ y0 y1 y2 y3 y4 y5, LeO (laws_FnNets.j1 k y0 y1 y2 y3 y4 y5) (laws_FnNets.j1 (k + 1) y0 y1 y2 y3 y4 y5)) ∧ (∀ y0 y1 y2 y3 y4 y5, LeO (laws_FnNets.l1 k y0 y1 y2 y3 y4 y5) (laws_FnNets.l1 (k + 1) y0 y1 y2 y3 y4 y5)) ∧ (∀ y0 y1 y2 y3 y4 y5 y6 y7, LeO (laws_FnNets.l2 k y0 y1 y2 y3 y4 y5 y6 y7) (laws_FnNets.l2 (k + 1) y0 y1 y2 y3 y4 y5 y6 y7)) ∧ (∀ y0 y1 y2 y3, LeO (laws_FnNets.l3 k y0 y1 y2 y3) (laws_FnNets.l3 (k + 1) y0 y1 y2 y3))
 | 0 => ⟨fun _ _ _ _ r h => by simp [laws_FnNets.l0] at h, fun _ _ _ _ _ _ r h => by simp [laws_FnNets.j1] at h, fun _ _ _ _ _ _ r h => by simp [laws_FnNets.l1] at h, fun _ _ _ _ _ _ _ _ r h => by simp [laws_FnNets.l2] at h, fun _ _ _ _ r h => by simp [laws_FnNets.l3] at h⟩
 | k + 1 => by
  obtain ⟨ih0, ih1, ih2, ih3, ih4⟩ := laws_FnNets.mono_l k
  refine ⟨?_, ?_, ?_, ?_, ?_⟩
  ·intro y0 y1 y2 y3
   unfold laws_FnNets.l0
   repeat' first
   | (with_reducible exact ih0 _ _ _ _)
   | (with_reducible exact ih1 _ _ _ _ _ _)
   | (with_reducible exact ih2 _ _ _ _ _ _)
   | (with_reducible exact ih3 _ _ _ _ _ _ _ _)
   | (with_reducible exact ih4 _ _ _ _)
   | (with_reducible exact impl_AreasOf.mono _ _ _ _ _)
   | (with_reducible exact impl_Border.mono _ _ _ _ _)
   | (with_reducible exact impl_CostTo.mono _ _ _ _ _ _ _)
   | (with_reducible exact impl_NetOk.mono _ _ _ _)
   | (with_reducible exact impl_NextTo.mono _ _ _ _ _ _)
   | (with_reducible exact laws_in.mono _ _ _)
   | (with_reducible exact spec_DrawRightNet.mono _ _)
   | (with_reducible exact LeO.refl _)
   | (with_reducible exact LeO.none _)
   | (with_reducible refine LeO.ite ?_ ?_)
   | (with_reducible refine LeO.bind ?_ (fun _ => ?_))
   | exact ih0 _ _ _ _
   | exact ih1 _ _ _ _ _ _
   | exact ih2 _ _ _ _ _ _
   | exact ih3 _ _ _ _ _ _ _ _
   | exact ih4 _ _ _ _
   | exact impl_AreasOf.mono _ _ _ _ _
   | exact impl_Border.mono _ _ _ _ _
   | exact impl_CostTo.mono _ _ _ _ _ _ _
   | exact impl_NetOk.mono _ _ _ _
   | exact impl_NextTo.mono _ _ _ _ _ _
   | exact laws_in.mono _ _ _
   | exact spec_DrawRightNet.mono _ _
   | exact LeO.none _
   | refine LeO.ite ?_ ?_
   | refine LeO.bind ?_ (fun _ => ?_)
  ·intro y0 y1 y2 y3 y4 y5
   unfold laws_FnNets.j1
   repeat' first
   | (with_reducible exact ih0 _ _ _ _)
   | (with_reducible exact ih1 _ _ _ _ _ _)
   | (with_reducible exact ih2 _ _ _ _ _ _)
   | (with_reducible exact ih3 _ _ _ _ _ _ _ _)
   | (with_reducible exact ih4 _ _ _ _)
   | (with_reducible exact impl_AreasOf.mono _ _ _ _ _)
   | (with_reducible exact impl_Border.mono _ _ _ _ _)
   | (with_reducible exact impl_CostTo.mono _ _ _ _ _ _ _)
   | (with_reducible exact impl_NetOk.mono _ _ _ _)
   | (with_reducible exact impl_NextTo.mono _ _ _ _ _ _)
   | (with_reducible exact laws_in.mono _ _ _)
   | (with_reducible exact spec_DrawRightNet.mono _ _)
   | (with_reducible exact LeO.refl _)
   | (with_reducible exact LeO.none _)
   | (with_reducible refine LeO.ite ?_ ?_)
   | (with_reducible refine LeO.bind ?_ (fun _ => ?_))
   | exact ih0 _ _ _ _
   | exact ih1 _ _ _ _ _ _
   | exact ih2 _ _ _ _ _ _
   | exact ih3 _ _ _ _ _ _ _ _
   | exact ih4 _ _ _ _
   | exact impl_AreasOf.mono _ _ _ _ _
   | exact impl_Border.mono _ _ _ _ _
   | exact impl_CostTo.mono _ _ _ _ _ _ _
   | exact impl_NetOk.mono _ _ _ _
   | exact impl_NextTo.mono _ _ _ _ _ _
   | exact laws_in.mono _ _ _
   | exact spec_DrawRightNet.mono _ _
   | exact LeO.none _
   | refine LeO.ite ?_ ?_
   | refine LeO.bind ?_ (fun _ => ?_)
  ·intro y0 y1 y2 y3 y4 y5
   unfold laws_FnNets.l1
   repeat' first
   | (with_reducible exact ih0 _ _ _ _)
   | (with_reducible exact ih1 _ _ _ _ _ _)
   | (with_reducible exact ih2 _ _ _ _ _ _)
   | (with_reducible exact ih3 _ _ _ _ _ _ _ _)
   | (with_reducible exact ih4 _ _ _ _)
   | (with_reducible exact impl_AreasOf.mono _ _ _ _ _)
   | (with_reducible exact impl_Border.mono _ _ _ _ _)
   | (with_reducible exact impl_CostTo.mono _ _ _ _ _ _ _)
   | (with_reducible exact impl_NetOk.mono _ _ _ _)
   | (with_reducible exact impl_NextTo.mono _ _ _ _ _ _)
   | (with_reducible exact laws_in.mono _ _ _)
   | (with_reducible exact spec_DrawRightNet.mono _ _)
   | (with_reducible exact LeO.refl _)
   | (with_reducible exact LeO.none _)
   | (with_reducible refine LeO.ite ?_ ?_)
   | (with_reducible refine LeO.bind ?_ (fun _ => ?_))
   | exact ih0 _ _ _ _
   | exact ih1 _ _ _ _ _ _
   | exact ih2 _ _ _ _ _ _
   | exact ih3 _ _ _ _ _ _ _ _
   | exact ih4 _ _ _ _
   | exact impl_AreasOf.mono _ _ _ _ _
   | exact impl_Border.mono _ _ _ _ _
   | exact impl_CostTo.mono _ _ _ _ _ _ _
   | exact impl_NetOk.mono _ _ _ _
   | exact impl_NextTo.mono _ _ _ _ _ _
   | exact laws_in.mono _ _ _
   | exact spec_DrawRightNet.mono _ _
   | exact LeO.none _
   | refine LeO.ite ?_ ?_
   | refine LeO.bind ?_ (fun _ => ?_)
  ·intro y0 y1 y2 y3 y4 y5 y6 y7
   unfold laws_FnNets.l2
   repeat' first
   | (with_reducible exact ih0 _ _ _ _)
   | (with_reducible exact ih1 _ _ _ _ _ _)
   | (with_reducible exact ih2 _ _ _ _ _ _)
   | (with_reducible exact ih3 _ _ _ _ _ _ _ _)
   | (with_reducible exact ih4 _ _ _ _)
   | (with_reducible exact impl_AreasOf.mono _ _ _ _ _)
   | (with_reducible exact impl_Border.mono _ _ _ _ _)
   | (with_reducible exact impl_CostTo.mono _ _ _ _ _ _ _)
   | (with_reducible exact impl_NetOk.mono _ _ _ _)
   | (with_reducible exact impl_NextTo.mono _ _ _ _ _ _)
   | (with_reducible exact laws_in.mono _ _ _)
   | (with_reducible exact spec_DrawRightNet.mono _ _)
   | (with_reducible exact LeO.refl _)
   | (with_reducible exact LeO.none _)
   | (with_reducible refine LeO.ite ?_ ?_)
   | (with_reducible refine LeO.bind ?_ (fun _ => ?_))
   | exact ih0 _ _ _ _
   | exact ih1 _ _ _ _ _ _
   | exact ih2 _ _ _ _ _ _
   | exact ih3 _ _ _ _ _ _ _ _
   | exact ih4 _ _ _ _
   | exact impl_AreasOf.mono _ _ _ _ _
   | exact impl_Border.mono _ _ _ _ _
   | exact impl_CostTo.mono _ _ _ _ _ _ _
   | exact impl_NetOk.mono _ _ _ _
   | exact impl_NextTo.mono _ _ _ _ _ _
   | exact laws_in.mono _ _ _
   | exact spec_DrawRightNet.mono _ _
   | exact LeO.none _
   | refine LeO.ite ?_ ?_
   | refine LeO.bind ?_ (fun _ => ?_)
  ·intro y0 y1 y2 y3
   unfold laws_FnNets.l3
   repeat' first
   | (with_reducible exact ih0 _ _ _ _)
   | (with_reducible exact ih1 _ _ _ _ _ _)
   | (with_reducible exact ih2 _ _ _ _ _ _)
   | (with_reducible exact ih3 _ _ _ _ _ _ _ _)
   | (with_reducible exact ih4 _ _ _ _)
   | (with_reducible exact impl_AreasOf.mono _ _ _ _ _)
   | (with_reducible exact impl_Border.mono _ _ _ _ _)
   | (with_reducible exact impl_CostTo.mono _ _ _ _ _ _ _)
   | (with_reducible exact impl_NetOk.mono _ _ _ _)
   | (with_reducible exact impl_NextTo.mono _ _ _ _ _ _)
   | (with_reducible exact laws_in.mono _ _ _)
   | (with_reducible exact spec_DrawRightNet.mono _ _)
   | (with_reducible exact LeO.refl _)
   | (with_reducible exact LeO.none _)
   | (with_reducible refine LeO.ite ?_ ?_)
   | (with_reducible refine LeO.bind ?_ (fun _ => ?_))
   | exact ih0 _ _ _ _
   | exact ih1 _ _ _ _ _ _
   | exact ih2 _ _ _ _ _ _
   | exact ih3 _ _ _ _ _ _ _ _
   | exact ih4 _ _ _ _
   | exact impl_AreasOf.mono _ _ _ _ _
   | exact impl_Border.mono _ _ _ _ _
   | exact impl_CostTo.mono _ _ _ _ _ _ _
   | exact impl_NetOk.mono _ _ _ _
   | exact impl_NextTo.mono _ _ _ _ _ _
   | exact laws_in.mono _ _ _
   | exact spec_DrawRightNet.mono _ _
   | exact LeO.none _
   | refine LeO.ite ?_ ?_
   | refine LeO.bind ?_ (fun _ => ?_)
theorem laws_FnNets.mono : ∀ a0 k, LeO (laws_FnNets.f k a0) (laws_FnNets.f (k + 1) a0) := by
 intro a0 k
 obtain ⟨ih0, ih1, ih2, ih3, ih4⟩ := laws_FnNets.mono_l k
 unfold laws_FnNets.f
 repeat' first
   | (with_reducible exact ih0 _ _ _ _)
   | (with_reducible exact ih1 _ _ _ _ _ _)
   | (with_reducible exact ih2 _ _ _ _ _ _)
   | (with_reducible exact ih3 _ _ _ _ _ _ _ _)
   | (with_reducible exact ih4 _ _ _ _)
   | (with_reducible exact impl_AreasOf.mono _ _ _ _ _)
   | (with_reducible exact impl_Border.mono _ _ _ _ _)
   | (with_reducible exact impl_CostTo.mono _ _ _ _ _ _ _)
   | (with_reducible exact impl_NetOk.mono _ _ _ _)
   | (with_reducible exact impl_NextTo.mono _ _ _ _ _ _)
   | (with_reducible exact laws_in.mono _ _ _)
   | (with_reducible exact spec_DrawRightNet.mono _ _)
   | (with_reducible exact LeO.refl _)
   | (with_reducible exact LeO.none _)
   | (with_reducible refine LeO.ite ?_ ?_)
   | (with_reducible refine LeO.bind ?_ (fun _ => ?_))
   | exact ih0 _ _ _ _
   | exact ih1 _ _ _ _ _ _
   | exact ih2 _ _ _ _ _ _
   | exact ih3 _ _ _ _ _ _ _ _
   | exact ih4 _ _ _ _
   | exact impl_AreasOf.mono _ _ _ _ _
   | exact impl_Border.mono _ _ _ _ _
   | exact impl_CostTo.mono _ _ _ _ _ _ _
   | exact impl_NetOk.mono _ _ _ _
   | exact impl_NextTo.mono _ _ _ _ _ _
   | exact laws_in.mono _ _ _
   | exact spec_DrawRightNet.mono _ _
   | exact LeO.none _
   | refine LeO.ite ?_ ?_
   | refine LeO.bind ?_ (fun _ => ?_)
def laws_FnNets.T28 : Bool × List (List Nat × List Nat) := (true, [([], []), ([0], [0]), ([], []), ([1, 2], [1, 2]), ([3], [3]), ([4, 3], [4]), ([5], [5]), ([5], [5]), ([7, 5], [5, 7]), ([5], [5]), ([9, 5], [5, 9]), ([5], [5]), ([11, 5], [5, 11]), ([6, 8, 10, 12, 5, 5], [5, 6, 8, 10, 12]), ([5], [5]), ([14, 5], [5, 14]), ([13, 15, 5], [5, 13, 15]), ([5, 16], [5, 16])])
def laws_FnNets.B28 : List Nat := [0, 1, 0, 7, 15, 31, 63, 63, 191, 63, 575, 63, 2111, 8191, 63, 16447, 65535, 131071]
theorem laws_FnNets.tab28 : rtab .any (opsOf Try.f13 28) = laws_FnNets.T28 := by kernel_rfl
theorem laws_FnNets.bits28 : waitsOk laws_FnNets.T28.2 laws_FnNets.B28 = true := by kernel_rfl
set_option maxHeartbeats 8000000 in
set_option maxRecDepth 100000 in
theorem laws_FnNets.calls (k : Nat) (A0 : Option Addr) (c0 : Nat) (l0 : List Int) (r : Bool) (w : World) (hr0 : Kd.C (Kd.int .u8) w A0 l0.length l0) (hc0 : l0.length ≤ c0) (hr_ : r = true) (h : laws_FnNets.f k l0 = some r) :
  Calls Try.prog 13 #[.slice A0 l0.length c0] w fun e w' => e = .returned (.bool r) ∧ Below w.heap.size w w' := by
 have hu31 := Try.underlying31
 have hu93 := Try.underlying93
 have HR0 := Aside0.mk hr0
 have HC0 := Aside0.mk hc0
 clear hr0 hc0
 have HB := Aside0.mk (Below.refl w.heap.size w)
 have H : ((laws_big.f l0).bind fun t327 => (if t327 = true then (some true) else ((spec_DrawRightNet.f k l0).bind fun bt328 => ((impl_NetOk.f k bt328.1 bt328.2.1 bt328.2.2.1).bind fun t342 => (if t342 = true then (laws_FnNets.l0 k 1 bt328.1 bt328.2.1 bt328.2.2.1) else (some false)))))) = some r := h
 clear h
 replace H := Option.bind_eq_some_iff.mp H
 obtain ⟨t327, A20, H⟩ := H
 replace H : (if t327 = true then (some true) else ((spec_DrawRightNet.f k l0).bind fun bt328 => ((impl_NetOk.f k bt328.1 bt328.2.1 bt328.2.2.1).bind fun t342 => (if t342 = true then (laws_FnNets.l0 k 1 bt328.1 bt328.2.1 bt328.2.2.1) else (some false))))) = some r := H
 have A2 := Aside0.mk A20
 clear A20
 have HC3 := Aside0.mk H
 clear H
 go_enter Try.func13, Try.ntmps13
 go_upto_if 15 with (first | ((with_reducible refine gate_callee (f := 47) rfl ?_); refine goesL_ (some 15) rfl rfl Try.func47 (by kernel_rfl) rfl #[.slice A0 l0.length c0] rfl mp_q ?_; (with_reducible refine (laws_big.calls _ _ l0 t327 _ ?side1 ?side2 A2.out).mono ?_); (case side1 => repeat (first | exact HR0.out | (with_reducible refine Kd.C_alloc ?_ _) | (with_reducible refine Kd.C_drewN ?_ _) | (with_reducible refine Kd.C_drew ?_))); (case side2 => exact HC0.out); rintro e w' ⟨rfl, ⟨nd, rfl⟩⟩; refine ⟨_, rfl, ?_⟩))
 have H := HC3.out
 clear HC3
 by_cases c4 : t327 = true
 ·subst c4
  have H1 : (some true) = some r := by rw [if_pos rfl] at H; exact H
  clear H
  have H := H1
  clear H1
  obtain rfl := Option.some.inj H
  go_wp2
  go_ret
  exact ⟨er_q, bw_q HB⟩
 ·replace c4 := Bool.eq_false_iff.mpr c4
  subst c4
  have H1 : ((spec_DrawRightNet.f k l0).bind fun bt328 => ((impl_NetOk.f k bt328.1 bt328.2.1 bt328.2.2.1).bind fun t342 => (if t342 = true then (laws_FnNets.l0 k 1 bt328.1 bt328.2.1 bt328.2.2.1) else (some false)))) = some r := by rw [if_neg (show ¬ (false = true) by decide)] at H; exact H
  clear H
  have H := H1
  clear H1
  replace H := Option.bind_eq_some_iff.mp H
  obtain ⟨⟨t328, t329, t332, t335, t338⟩, A50, H⟩ := H
  replace H : ((impl_NetOk.f k t328 t329 t332).bind fun t342 => (if t342 = true then (laws_FnNets.l0 k 1 t328 t329 t332) else (some false))) = some r := H
  have A5 := Aside0.mk A50
  clear A50
  replace H := Option.bind_eq_some_iff.mp H
  obtain ⟨t342, A60, H⟩ := H
  replace H : (if t342 = true then (laws_FnNets.l0 k 1 t328 t329 t332) else (some false)) = some r := H
  have A6 := Aside0.mk A60
  clear A60
  have HC7 := Aside0.mk H
  clear H
  go_upto_if 24 with (first | ((with_reducible refine gate_callee (f := 60) rfl ?_); refine goesL_ (some 18) rfl rfl Try.func60 (by kernel_rfl) rfl #[.slice A0 l0.length c0] rfl mp_q ?_; (with_reducible refine (spec_DrawRightNet.calls k _ _ l0 t328 t329 t332 t335 t338 _ ?side1 ?side2 A5.out).mono ?_); (case side1 => exact cs_q (Kd.C_below HR0.out HB.out)); (case side2 => exact HC0.out); rintro e w8 ⟨v330, v333, v336, v339, rfl, ho0, ho1, ho2, ho3, hb⟩; refine ⟨_, rfl, ?_⟩; have hs_v330 : (v330 : Value).oneCell' = true := (by first | (have h_ := Kd.R_slice ho0; obtain ⟨A_, c_, e_⟩ := h_; simp [e_, Value.oneCell']) | (have h_ := Kd.S_slice ho0; obtain ⟨A_, c_, e_⟩ := h_; simp [e_, Value.oneCell']) | (have h_ := Kd.N_slice ho0; obtain ⟨A_, c_, e_⟩ := h_; simp [e_, Value.oneCell']) | (have h_ := Kd.V_slice ho0; obtain ⟨A_, c_, e_⟩ := h_; simp [e_, Value.oneCell'])); have hst_v330 := fun (w_ : World) (a_ : Addr) m_ => run_store Try.prog w_ a_ v330 m_ hs_v330; have hs_v333 : (v333 : Value).oneCell' = true := (by first | (have h_ := Kd.R_slice ho1; obtain ⟨A_, c_, e_⟩ := h_; simp [e_, Value.oneCell']) | (have h_ := Kd.S_slice ho1; obtain ⟨A_, c_, e_⟩ := h_; simp [e_, Value.oneCell']) | (have h_ := Kd.N_slice ho1; obtain ⟨A_, c_, e_⟩ := h_; simp [e_, Value.oneCell']) | (have h_ := Kd.V_slice ho1; obtain ⟨A_, c_, e_⟩ := h_; simp [e_, Value.oneCell'])); have hst_v333 := fun (w_ : World) (a_ : Addr) m_ => run_store Try.prog w_ a_ v333 m_ hs_v333; have hs_v336 : (v336 : Value).oneCell' = true := (by first | (have h_ := Kd.R_slice ho2; obtain ⟨A_, c_, e_⟩ := h_; simp [e_, Value.oneCell']) | (have h_ := Kd.S_slice ho2; obtain ⟨A_, c_, e_⟩ := h_; simp [e_, Value.oneCell']) | (have h_ := Kd.N_slice ho2; obtain ⟨A_, c_, e_⟩ := h_; simp [e_, Value.oneCell']) | (have h_ := Kd.V_slice ho2; obtain ⟨A_, c_, e_⟩ := h_; simp [e_, Value.oneCell'])); have hst_v336 := fun (w_ : World) (a_ : Addr) m_ => run_store Try.prog w_ a_ v336 m_ hs_v336; have hs_v339 : (v339 : Value).oneCell' = true := (by first | (have h_ := Kd.R_slice ho3; obtain ⟨A_, c_, e_⟩ := h_; simp [e_, Value.oneCell']) | (have h_ := Kd.S_slice ho3; obtain ⟨A_, c_, e_⟩ := h_; simp [e_, Value.oneCell']) | (have h_ := Kd.N_slice ho3; obtain ⟨A_, c_, e_⟩ := h_; simp [e_, Value.oneCell']) | (have h_ := Kd.V_slice ho3; obtain ⟨A_, c_, e_⟩ := h_; simp [e_, Value.oneCell'])); have hst_v339 := fun (w_ : World) (a_ : Addr) m_ => run_store Try.prog w_ a_ v339 m_ hs_v339; have HO331 := Aside0.mk (Kd.R_lower ho0 (below_size (bw_q HB))); have HO334 := Aside0.mk (Kd.R_lower ho1 (below_size (bw_q HB))); have HO337 := Aside0.mk (Kd.R_lower ho2 (below_size (bw_q HB))); have HO340 := Aside0.mk (Kd.R_lower ho3 (below_size (bw_q HB))); replace HB := Aside0.mk (below_step (bw_q HB) hb); (try clear hb); (try clear hb2); (try clear hk); (try clear hi); (try clear ho0); (try clear ho1); (try clear ho2); (try clear ho3)) | ((with_reducible refine gate_dst (N := 3) rfl ?_); (try (refine gate_guard (by rfl) ?_; dsimp only)); refine box_q 3 #[.int .i64 0, .slice none 0 0, .slice none 0 0] 31 ?_; intro gb341 hg w9 hbox hb; replace HO331 := Aside0.mk (Kd.R_below (kR_q HO331) hb); replace HO334 := Aside0.mk (Kd.R_below (kR_q HO334) hb); replace HO337 := Aside0.mk (Kd.R_below (kR_q HO337) hb); replace HO340 := Aside0.mk (Kd.R_below (kR_q HO340) hb); have BK341 := Aside0.mk (hbox); have GW341 := Aside0.mk ((by rw [hg]; exact (below_size (bw_q HB)) : w.heap.size ≤ gb341)); have GE341 := Aside0.mk ((by rw [hg]; exact (below_size (bw_q HB)) : w.heap.size ≤ gb341)); replace HB := Aside0.mk (below_step (bw_q HB) hb); clear hb hbox hg; have hcz10_0 : w9.cell? ⟨gb341, 0, none⟩ = some (.int .i64 0) := (blk_cell BK341.out 0).trans rfl; have hcz10_1 : w9.cell? ⟨gb341, 1, none⟩ = some (.slice none 0 0) := (blk_cell BK341.out 1).trans rfl; have hcz10_2 : w9.cell? ⟨gb341, 2, none⟩ = some (.slice none 0 0) := (blk_cell BK341.out 2).trans rfl; have hfz10_0 := blk_frozen BK341.out 0; have hfz10_1 := blk_frozen BK341.out 1; have hfz10_2 := blk_frozen BK341.out 2; obtain ⟨Ao11, co11, eo11⟩ := Kd.R_slice HO331.out; subst eo11; obtain ⟨Ao12, co12, eo12⟩ := Kd.R_slice HO334.out; subst eo12) | ((with_reducible refine gate_callee (f := 18) rfl ?_); refine goesL_ (some 23) rfl rfl Try.func18 (by kernel_rfl) rfl #[.agg #[.int .i64 t328, .slice Ao11 t329.length co11, .slice Ao12 t332.length co12]] rfl mp_q ?_; (with_reducible refine (impl_NetOk.calls k t328 _ _ t329 _ _ t332 t342 _ ?side1 ?side2 ?side3 ?side4 A6.out).mono ?_); (case side1 => refine (Kd.R_reads' (e := 93) (base := w.heap.size) (ok := fun k_ => True) (n := t329.length) (c := co11) ?_).2.2; exact (by (with_reducible repeat (first | apply Kd.R_alloc | apply Kd.R_drewN | apply Kd.R_drew)); exact (Kd.R_mono (Kd.R_far (p := ⟨gb341, 2, none⟩) (Kd.R_far (p := ⟨gb341, 1, none⟩) (Kd.R_far (p := ⟨gb341, 0, none⟩) (Kd.R_types HO331.out BK341.out (by decide)) (fun _ hk => hk.2) (.int .i64 t328)) (fun _ hk => hk.2) (.slice Ao11 t329.length co11)) (fun _ hk => hk.2) (.slice Ao12 t332.length co12)) (fun _ h_ => h_.1)))); (case side2 => exact (Kd.R_reads' HO331.out).2.1); (case side3 => refine (Kd.R_reads' (e := 102) (base := w.heap.size) (ok := fun k_ => True) (n := t332.length) (c := co12) ?_).2.2; exact (by (with_reducible repeat (first | apply Kd.R_alloc | apply Kd.R_drewN | apply Kd.R_drew)); exact (Kd.R_mono (Kd.R_far (p := ⟨gb341, 2, none⟩) (Kd.R_far (p := ⟨gb341, 1, none⟩) (Kd.R_far (p := ⟨gb341, 0, none⟩) (Kd.R_types HO334.out BK341.out (by decide)) (fun _ hk => hk.2) (.int .i64 t328)) (fun _ hk => hk.2) (.slice Ao11 t329.length co11)) (fun _ hk => hk.2) (.slice Ao12 t332.length co12)) (fun _ h_ => h_.1)))); (case side4 => exact (Kd.R_reads' HO334.out).2.1); rintro e w13 ⟨rfl, hb⟩; refine ⟨_, rfl, ?_⟩; replace HO331 := Aside0.mk (Kd.R_below (by (with_reducible repeat (first | apply Kd.R_alloc | apply Kd.R_drewN | apply Kd.R_drew)); exact (Kd.R_mono (Kd.R_far (p := ⟨gb341, 2, none⟩) (Kd.R_far (p := ⟨gb341, 1, none⟩) (Kd.R_far (p := ⟨gb341, 0, none⟩) (Kd.R_types HO331.out BK341.out (by decide)) (fun _ hk => hk.2) (.int .i64 t328)) (fun _ hk => hk.2) (.slice Ao11 t329.length co11)) (fun _ hk => hk.2) (.slice Ao12 t332.length co12)) (fun _ h_ => h_.1))) hb); replace HO334 := Aside0.mk (Kd.R_below (by (with_reducible repeat (first | apply Kd.R_alloc | apply Kd.R_drewN | apply Kd.R_drew)); exact (Kd.R_mono (Kd.R_far (p := ⟨gb341, 2, none⟩) (Kd.R_far (p := ⟨gb341, 1, none⟩) (Kd.R_far (p := ⟨gb341, 0, none⟩) (Kd.R_types HO334.out BK341.out (by decide)) (fun _ hk => hk.2) (.int .i64 t328)) (fun _ hk => hk.2) (.slice Ao11 t329.length co11)) (fun _ hk => hk.2) (.slice Ao12 t332.length co12)) (fun _ h_ => h_.1))) hb); replace HO337 := Aside0.mk (Kd.R_below (by (with_reducible repeat (first | apply Kd.R_alloc | apply Kd.R_drewN | apply Kd.R_drew)); exact (Kd.R_mono (Kd.R_far (p := ⟨gb341, 2, none⟩) (Kd.R_far (p := ⟨gb341, 1, none⟩) (Kd.R_far (p := ⟨gb341, 0, none⟩) (Kd.R_types HO337.out BK341.out (by decide)) (fun _ hk => hk.2) (.int .i64 t328)) (fun _ hk => hk.2) (.slice Ao11 t329.length co11)) (fun _ hk => hk.2) (.slice Ao12 t332.length co12)) (fun _ h_ => h_.1))) hb); replace HO340 := Aside0.mk (Kd.R_below (by (with_reducible repeat (first | apply Kd.R_alloc | apply Kd.R_drewN | apply Kd.R_drew)); exact (Kd.R_mono (Kd.R_far (p := ⟨gb341, 2, none⟩) (Kd.R_far (p := ⟨gb341, 1, none⟩) (Kd.R_far (p := ⟨gb341, 0, none⟩) (Kd.R_types HO340.out BK341.out (by decide)) (fun _ hk => hk.2) (.int .i64 t328)) (fun _ hk => hk.2) (.slice Ao11 t329.length co11)) (fun _ hk => hk.2) (.slice Ao12 t332.length co12)) (fun _ h_ => h_.1))) hb); replace BK341 := Aside0.mk (blk_below (g := gb341) (o := .cells #[.int .i64 t328, .slice Ao11 t329.length co11, .slice Ao12 t332.length co12] 31 (0, 0)) (by refine bz_ ?_; refine blk_put (cs := #[.int .i64 t328, .slice Ao11 t329.length co11, .slice none 0 0]) ?_ 2 _ rfl; refine bz_ ?_; refine blk_put (cs := #[.int .i64 t328, .slice none 0 0, .slice none 0 0]) ?_ 1 _ rfl; refine bz_ ?_; refine blk_put (cs := #[.int .i64 0, .slice none 0 0, .slice none 0 0]) ?_ 0 _ rfl; refine bz_ ?_; exact BK341.out) hb); replace HB := Aside0.mk (below_step (bw_q HB) hb); (try clear hb); (try clear hb2); (try clear hk); (try clear hi)))
  have H := HC7.out
  clear HC7
  by_cases c14 : t342 = true
  ·subst c14
   have H1 : (laws_FnNets.l0 k 1 t328 t329 t332) = some r := by rw [if_pos rfl] at H; exact H
   clear H
   have H := H1
   clear H1
   have H' := Aside0.mk H
   clear H
   go_wp2
   go_loopg [6] k (fun kq v6 w' => ∃ (x6_1 : Int), v6 = .int .i64 x6_1 ∧ Aside0 (laws_FnNets.l0 kq x6_1 t328 t329 t332 = some r) ∧ Aside0 (kq ≤ k) ∧ Aside0 (Kd.R k93 93 w' w.heap.size (fun _ => True) (.slice Ao11 t329.length co11) t329) ∧ Aside0 (Kd.R k102 102 w' w.heap.size (fun _ => True) (.slice Ao12 t332.length co12) t332) ∧ Aside0 (w'.heap[gb341]? = some (.cells #[.int .i64 t328, (.slice Ao11 t329.length co11), (.slice Ao12 t332.length co12)] 31 (0, 0))) ∧ Aside0 (Below w.heap.size w w'))
   case atStart => exact ⟨(1), (by first | rfl | (simp; done) | (simp [*]; done)), H', ⟨Nat.le_refl _⟩, ⟨by (with_reducible repeat (first | apply Kd.R_alloc | apply Kd.R_drewN | apply Kd.R_drew)); exact HO331.out⟩, ⟨by (with_reducible repeat (first | apply Kd.R_alloc | apply Kd.R_drewN | apply Kd.R_drew)); exact HO334.out⟩, ⟨by refine bz_ ?_; exact BK341.out⟩, ⟨bw_q HB⟩⟩
   case round =>
    clear H'
    try clear c1
    try clear p2
    try clear c4
    try clear c6
    try clear c13
    try clear c14
    try clear hcz10_0
    try clear hcz10_1
    try clear hcz10_2
    try clear hfz10_0
    try clear hfz10_1
    try clear hfz10_2
    obtain ⟨x6_1, rfl, HA, HK1, HO_342001, HO_342002, BK341, HB⟩ := hrel
    cases gk with
    | zero => exact absurd HA.out (by simp [laws_FnNets.l0])
    | succ k1 =>
     have H := HA.out
     clear HA
     simp only [laws_FnNets.l0] at H
     by_cases c15 : x6_1 ≤ t328
     ·rw [if_pos c15] at H
      have c15b0 : decide (x6_1 ≤ t328) = true := decide_eq_true c15
      clear c15
      (first | rw [c15b0] | rw [c15b1] | (simp only [i64_w, i32_w]; first | rw [c15b0] | rw [c15b1]) | skip)
      replace H := Option.bind_eq_some_iff.mp H
      obtain ⟨t343, A160, H⟩ := H
      replace H : ((impl_Border.f k1 t328 t329 t332 x6_1).bind fun t346 => ((laws_in.f k1 t343 0).bind fun t347 => (if t347 = true then (laws_FnNets.j1 k1 x6_1 t343 (t346 != (decide ((t343.length : Int) > 1))) t328 t329 t332) else (laws_FnNets.j1 k1 x6_1 t343 (t346 != false) t328 t329 t332)))) = some r := H
      have A16 := Aside0.mk A160
      clear A160
      have HC17 := Aside0.mk H
      clear H
      obtain ⟨hcz18_0, hcz18_1, hcz18_2⟩ := cz3_ BK341
      obtain ⟨hfz18_0, hfz18_1, hfz18_2⟩ := fz3_ BK341
      go_upto_region 10 with (first | ((with_reducible refine gate_callee (f := 61) rfl ?_); refine goesL_ (some 33) rfl rfl Try.func61 (by kernel_rfl) rfl #[.agg #[.int .i64 t328, .slice Ao11 t329.length co11, .slice Ao12 t332.length co12], .int .i64 x6_1] rfl mp_q ?_; (with_reducible refine (impl_AreasOf.calls k1 t328 _ _ t329 _ _ t332 x6_1 t343 _ ?side1 ?side2 ?side3 ?side4 A16.out).mono ?_); (case side1 => repeat (first | exact (Kd.R_reads' HO_342001.out).2.2 | (with_reducible refine Kd.C_alloc ?_ _) | (with_reducible refine Kd.C_drewN ?_ _) | (with_reducible refine Kd.C_drew ?_))); (case side2 => exact (Kd.R_reads' HO_342001.out).2.1); (case side3 => repeat (first | exact (Kd.R_reads' HO_342002.out).2.2 | (with_reducible refine Kd.C_alloc ?_ _) | (with_reducible refine Kd.C_drewN ?_ _) | (with_reducible refine Kd.C_drew ?_))); (case side4 => exact (Kd.R_reads' HO_342002.out).2.1); rintro e w19 ⟨v344, rfl, ho0, hb⟩; refine ⟨_, rfl, ?_⟩; replace HO_342001 := Aside0.mk (Kd.R_below (kR_q HO_342001) hb); replace HO_342002 := Aside0.mk (Kd.R_below (kR_q HO_342002) hb); have HO345 := Aside0.mk (Kd.R_lower ho0 (below_size (bw_q HB))); replace BK341 := Aside0.mk (blk_below (g := gb341) (bk_q BK341) hb); replace HB := Aside0.mk (below_step (bw_q HB) hb); (try clear hb); (try clear hb2); (try clear hk); (try clear hi); (try clear ho0)))
      (try simp only [Act.put, List.setIfInBounds_toArray, List.set_cons_zero, List.set_cons_succ])
      go_cut [44] (fun v44 wc => ∃ (kq : Nat) (x44_16 : Bool), v44 = .bool x44_16 ∧ Aside0 (laws_FnNets.j1 kq x6_1 t343 x44_16 t328 t329 t332 = some r) ∧ Aside0 (kq ≤ k1) ∧ Aside0 (Kd.R (Kd.int .i64) 3 wc w.heap.size (fun _ => True) v344 t343) ∧ Aside0 (Kd.R k93 93 wc w.heap.size (fun _ => True) (.slice Ao11 t329.length co11) t329) ∧ Aside0 (Kd.R k102 102 wc w.heap.size (fun _ => True) (.slice Ao12 t332.length co12) t332) ∧ Aside0 (wc.heap[gb341]? = some (.cells #[.int .i64 t328, (.slice Ao11 t329.length co11), (.slice Ao12 t332.length co12)] 31 (0, 0))) ∧ Aside0 (Below w.heap.size w wc))
      case first =>
       have H := HC17.out
       clear HC17
       replace H := Option.bind_eq_some_iff.mp H
       obtain ⟨t346, A200, H⟩ := H
       replace H : ((laws_in.f k1 t343 0).bind fun t347 => (if t347 = true then (laws_FnNets.j1 k1 x6_1 t343 (t346 != (decide ((t343.length : Int) > 1))) t328 t329 t332) else (laws_FnNets.j1 k1 x6_1 t343 (t346 != false) t328 t329 t332))) = some r := H
       have A20 := Aside0.mk A200
       clear A200
       replace H := Option.bind_eq_some_iff.mp H
       obtain ⟨t347, A210, H⟩ := H
       replace H : (if t347 = true then (laws_FnNets.j1 k1 x6_1 t343 (t346 != (decide ((t343.length : Int) > 1))) t328 t329 t332) else (laws_FnNets.j1 k1 x6_1 t343 (t346 != false) t328 t329 t332)) = some r := H
       have A21 := Aside0.mk A210
       clear A210
       by_cases c22 : t347 = true
       ·subst c22
        have H1 : (laws_FnNets.j1 k1 x6_1 t343 (t346 != (decide ((t343.length : Int) > 1))) t328 t329 t332) = some r := by rw [if_pos rfl] at H; exact H
        clear H
        have H := H1
        clear H1
        have H' := Aside0.mk H
        clear H
        obtain ⟨hcz23_0, hcz23_1, hcz23_2⟩ := cz3_ BK341
        obtain ⟨hfz23_0, hfz23_1, hfz23_2⟩ := fz3_ BK341
        go_wp2_with (first | ((with_reducible refine gate_callee (f := 62) rfl ?_); refine goesL_ (some 36) rfl rfl Try.func62 (by kernel_rfl) rfl #[.agg #[.int .i64 t328, .slice Ao11 t329.length co11, .slice Ao12 t332.length co12], .int .i64 x6_1] rfl mp_q ?_; (with_reducible refine (impl_Border.calls k1 t328 _ _ t329 _ _ t332 x6_1 t346 _ ?side1 ?side2 ?side3 ?side4 A20.out).mono ?_); (case side1 => repeat (first | exact (Kd.R_reads' HO_342001.out).2.2 | (with_reducible refine Kd.C_alloc ?_ _) | (with_reducible refine Kd.C_drewN ?_ _) | (with_reducible refine Kd.C_drew ?_))); (case side2 => exact (Kd.R_reads' HO_342001.out).2.1); (case side3 => repeat (first | exact (Kd.R_reads' HO_342002.out).2.2 | (with_reducible refine Kd.C_alloc ?_ _) | (with_reducible refine Kd.C_drewN ?_ _) | (with_reducible refine Kd.C_drew ?_))); (case side4 => exact (Kd.R_reads' HO_342002.out).2.1); rintro e w24 ⟨rfl, hb⟩; refine ⟨_, rfl, ?_⟩; replace HO_342001 := Aside0.mk (Kd.R_below (kR_q HO_342001) hb); replace HO_342002 := Aside0.mk (Kd.R_below (kR_q HO_342002) hb); replace HO345 := Aside0.mk (Kd.R_below (kR_q HO345) hb); replace BK341 := Aside0.mk (blk_below (g := gb341) (bk_q BK341) hb); replace HB := Aside0.mk (below_step (bw_q HB) hb); (try clear hb); (try clear hb2); (try clear hk); (try clear hi); obtain ⟨Ao25, co25, eo25⟩ := Kd.R_slice HO345.out; subst eo25) | ((with_reducible refine gate_callee (f := 63) rfl ?_); refine goesL_ (some 38) rfl rfl Try.func63 (by kernel_rfl) rfl #[.slice Ao25 t343.length co25, .int .i64 0] rfl mp_q ?_; (with_reducible refine (laws_in.calls k1 _ _ t343 0 true _ ?side1 ?side2 A21.out).mono ?_); (case side1 => repeat (first | exact (Kd.R_reads' HO345.out).2.2 | (with_reducible refine Kd.C_alloc ?_ _) | (with_reducible refine Kd.C_drewN ?_ _) | (with_reducible refine Kd.C_drew ?_))); (case side2 => exact (Kd.R_reads' HO345.out).2.1); rintro e w' ⟨rfl, ⟨nd, rfl⟩⟩; refine ⟨_, rfl, ?_⟩))
        go_meet
        case rel => exact ⟨_, ((t346 != (decide ((t343.length : Int) > 1)))), (by first | rfl | (simp; done) | (simp [*]; done)), H', ⟨by have := HK1.out; first | omega | exact Nat.le_refl _⟩, ⟨by (with_reducible repeat (first | apply Kd.R_alloc | apply Kd.R_drewN | apply Kd.R_drew)); exact HO345.out⟩, ⟨by (with_reducible repeat (first | apply Kd.R_alloc | apply Kd.R_drewN | apply Kd.R_drew)); exact HO_342001.out⟩, ⟨by (with_reducible repeat (first | apply Kd.R_alloc | apply Kd.R_drewN | apply Kd.R_drew)); exact HO_342002.out⟩, ⟨by refine bz_ ?_; exact BK341.out⟩, ⟨bw_q HB⟩⟩
       ·replace c22 := Bool.eq_false_iff.mpr c22
        subst c22
        have H1 : (laws_FnNets.j1 k1 x6_1 t343 (t346 != false) t328 t329 t332) = some r := by rw [if_neg (show ¬ (false = true) by decide)] at H; exact H
        clear H
        have H := H1
        clear H1
        have H' := Aside0.mk H
        clear H
        obtain ⟨hcz26_0, hcz26_1, hcz26_2⟩ := cz3_ BK341
        obtain ⟨hfz26_0, hfz26_1, hfz26_2⟩ := fz3_ BK341
        go_wp2_with (first | ((with_reducible refine gate_callee (f := 62) rfl ?_); refine goesL_ (some 36) rfl rfl Try.func62 (by kernel_rfl) rfl #[.agg #[.int .i64 t328, .slice Ao11 t329.length co11, .slice Ao12 t332.length co12], .int .i64 x6_1] rfl mp_q ?_; (with_reducible refine (impl_Border.calls k1 t328 _ _ t329 _ _ t332 x6_1 t346 _ ?side1 ?side2 ?side3 ?side4 A20.out).mono ?_); (case side1 => repeat (first | exact (Kd.R_reads' HO_342001.out).2.2 | (with_reducible refine Kd.C_alloc ?_ _) | (with_reducible refine Kd.C_drewN ?_ _) | (with_reducible refine Kd.C_drew ?_))); (case side2 => exact (Kd.R_reads' HO_342001.out).2.1); (case side3 => repeat (first | exact (Kd.R_reads' HO_342002.out).2.2 | (with_reducible refine Kd.C_alloc ?_ _) | (with_reducible refine Kd.C_drewN ?_ _) | (with_reducible refine Kd.C_drew ?_))); (case side4 => exact (Kd.R_reads' HO_342002.out).2.1); rintro e w27 ⟨rfl, hb⟩; refine ⟨_, rfl, ?_⟩; replace HO_342001 := Aside0.mk (Kd.R_below (kR_q HO_342001) hb); replace HO_342002 := Aside0.mk (Kd.R_below (kR_q HO_342002) hb); replace HO345 := Aside0.mk (Kd.R_below (kR_q HO345) hb); replace BK341 := Aside0.mk (blk_below (g := gb341) (bk_q BK341) hb); replace HB := Aside0.mk (below_step (bw_q HB) hb); (try clear hb); (try clear hb2); (try clear hk); (try clear hi); obtain ⟨Ao28, co28, eo28⟩ := Kd.R_slice HO345.out; subst eo28) | ((with_reducible refine gate_callee (f := 63) rfl ?_); refine goesL_ (some 38) rfl rfl Try.func63 (by kernel_rfl) rfl #[.slice Ao28 t343.length co28, .int .i64 0] rfl mp_q ?_; (with_reducible refine (laws_in.calls k1 _ _ t343 0 false _ ?side1 ?side2 A21.out).mono ?_); (case side1 => repeat (first | exact (Kd.R_reads' HO345.out).2.2 | (with_reducible refine Kd.C_alloc ?_ _) | (with_reducible refine Kd.C_drewN ?_ _) | (with_reducible refine Kd.C_drew ?_))); (case side2 => exact (Kd.R_reads' HO345.out).2.1); rintro e w' ⟨rfl, ⟨nd, rfl⟩⟩; refine ⟨_, rfl, ?_⟩))
        go_meet
        case rel => exact ⟨_, ((t346 != false)), (by first | rfl | (simp; done) | (simp [*]; done)), H', ⟨by have := HK1.out; first | omega | exact Nat.le_refl _⟩, ⟨by (with_reducible repeat (first | apply Kd.R_alloc | apply Kd.R_drewN | apply Kd.R_drew)); exact HO345.out⟩, ⟨by (with_reducible repeat (first | apply Kd.R_alloc | apply Kd.R_drewN | apply Kd.R_drew)); exact HO_342001.out⟩, ⟨by (with_reducible repeat (first | apply Kd.R_alloc | apply Kd.R_drewN | apply Kd.R_drew)); exact HO_342002.out⟩, ⟨by refine bz_ ?_; exact BK341.out⟩, ⟨bw_q HB⟩⟩
      case rest =>
       clear HC17
       try clear c1
       try clear c2
       try clear p2
       try clear c4
       try clear c6
       try clear c13
       try clear c14
       try clear c15
       try clear c15b0
       try clear c15b1
       try clear c18
       try clear c22
       try clear hcz10_0
       try clear hcz10_1
       try clear hcz10_2
       try clear hcz18_0
       try clear hcz18_1
       try clear hcz18_2
       try clear hcz23_0
       try clear hcz23_1
       try clear hcz23_2
       try clear hcz26_0
       try clear hcz26_1
       try clear hcz26_2
       try clear hfz10_0
       try clear hfz10_1
       try clear hfz10_2
       try clear hfz18_0
       try clear hfz18_1
       try clear hfz18_2
       try clear hfz23_0
       try clear hfz23_1
       try clear hfz23_2
       try clear hfz26_0
       try clear hfz26_1
       try clear hfz26_2
       try clear p2
       obtain ⟨kq, x44_16, rfl, HA, HJ16, HO_7, HO_342001, HO_342002, BK341, HB⟩ := hcut
       cases kq with
       | zero => exact absurd HA.out (by simp [laws_FnNets.j1])
       | succ kj16 =>
        have H := HA.out
        clear HA
        simp only [laws_FnNets.j1] at H
        by_cases c29 : x44_16 = true
        ·subst c29
         have H1 : (some false) = some r := by rw [if_pos rfl] at H; exact H
         clear H
         have H := H1
         clear H1
         exact absurd (Option.some.inj H) (by rw [hr_]; decide)
        ·replace c29 := Bool.eq_false_iff.mpr c29
         subst c29
         have H1 : (laws_FnNets.l1 kj16 x6_1 t343 0 t328 t329 t332) = some r := by rw [if_neg (show ¬ (false = true) by decide)] at H; exact H
         clear H
         have H := H1
         clear H1
         have H' := Aside0.mk H
         clear H
         go_wp2
         go_loopg [8] kj16 (fun kq v8 w' => ∃ (x8_3 : Int), v8 = .int .i64 x8_3 ∧ Aside0 (laws_FnNets.l1 kq x6_1 t343 x8_3 t328 t329 t332 = some r) ∧ Aside0 (kq ≤ kj16) ∧ Aside0 (Kd.R (Kd.int .i64) 3 w' w.heap.size (fun _ => True) v344 t343) ∧ Aside0 (Kd.R k93 93 w' w.heap.size (fun _ => True) (.slice Ao11 t329.length co11) t329) ∧ Aside0 (Kd.R k102 102 w' w.heap.size (fun _ => True) (.slice Ao12 t332.length co12) t332) ∧ Aside0 (w'.heap[gb341]? = some (.cells #[.int .i64 t328, (.slice Ao11 t329.length co11), (.slice Ao12 t332.length co12)] 31 (0, 0))) ∧ Aside0 (Below w.heap.size w w'))
         case atStart => exact ⟨(0), (by first | rfl | (simp; done) | (simp [*]; done)), H', ⟨Nat.le_refl _⟩, ⟨by (with_reducible repeat (first | apply Kd.R_alloc | apply Kd.R_drewN | apply Kd.R_drew)); exact HO_7.out⟩, ⟨by (with_reducible repeat (first | apply Kd.R_alloc | apply Kd.R_drewN | apply Kd.R_drew)); exact HO_342001.out⟩, ⟨by (with_reducible repeat (first | apply Kd.R_alloc | apply Kd.R_drewN | apply Kd.R_drew)); exact HO_342002.out⟩, ⟨by refine bz_ ?_; exact BK341.out⟩, ⟨bw_q HB⟩⟩
         case round =>
          clear H'
          try clear c1
          try clear c2
          try clear p2
          try clear c4
          try clear c6
          try clear c13
          try clear c14
          try clear c15
          try clear c15b0
          try clear c15b1
          try clear c18
          try clear c22
          try clear c29
          try clear hcz10_0
          try clear hcz10_1
          try clear hcz10_2
          try clear hcz18_0
          try clear hcz18_1
          try clear hcz18_2
          try clear hcz23_0
          try clear hcz23_1
          try clear hcz23_2
          try clear hcz26_0
          try clear hcz26_1
          try clear hcz26_2
          try clear hfz10_0
          try clear hfz10_1
          try clear hfz10_2
          try clear hfz18_0
          try clear hfz18_1
          try clear hfz18_2
          try clear hfz23_0
          try clear hfz23_1
          try clear hfz23_2
          try clear hfz26_0
          try clear hfz26_1
          try clear hfz26_2
          try clear p2
          obtain ⟨x8_3, rfl, HA, HK3, HO_7, HO_342001, HO_342002, BK341, HB⟩ := hrel
          cases gk with
          | zero => exact absurd HA.out (by simp [laws_FnNets.l1])
          | succ k3 =>
           have H := HA.out
           clear HA
           simp only [laws_FnNets.l1] at H
           by_cases c30 : x8_3 ≤ 2
           ·rw [if_pos c30] at H
            have c30b0 : decide (x8_3 ≤ 2) = true := decide_eq_true c30
            clear c30
            replace H := Option.bind_eq_some_iff.mp H
            obtain ⟨t348, A310, H⟩ := H
            replace H : ((laws_in.f k3 t343 x8_3).bind fun t351 => (if (t351 != (decide ((t348.length : Int) > 0))) = true then (some false) else (laws_FnNets.l2 k3 x6_1 t343 x8_3 t348 1 t328 t329 t332))) = some r := H
            have A31 := Aside0.mk A310
            clear A310
            replace H := Option.bind_eq_some_iff.mp H
            obtain ⟨t351, A320, H⟩ := H
            replace H : (if (t351 != (decide ((t348.length : Int) > 0))) = true then (some false) else (laws_FnNets.l2 k3 x6_1 t343 x8_3 t348 1 t328 t329 t332)) = some r := H
            have A32 := Aside0.mk A320
            clear A320
            by_cases c33 : (t351 != (decide ((t348.length : Int) > 0))) = true
            ·rw [if_pos c33] at H
             have c33b0 : (t351 != (decide ((t348.length : Int) > 0))) = true := c33
             (try (have c33b1 : decide (t351 = (decide ((t348.length : Int) > 0))) = false := by simpa using c33))
             (try (have c33b2 : (t351 == (decide ((t348.length : Int) > 0))) = false := by simpa using c33))
             have c33e : decide ((t348.length : Int) > 0) = decide (0 < t348.length) := decide_eq_decide.2 (by omega)
             have c33b3 : (t351 == decide (0 < t348.length)) = false := by rw [← c33e]; exact c33b2
             (try (have c33b3 : ¬ (t351 = (decide ((t348.length : Int) > 0))) := by simpa using c33))
             clear c33
             exact absurd (Option.some.inj H) (by rw [hr_]; decide)
            ·rw [if_neg c33] at H
             have c33b0 : (t351 != (decide ((t348.length : Int) > 0))) = false := by simpa using c33
             (try (have c33b1 : decide (t351 = (decide ((t348.length : Int) > 0))) = true := by simpa using c33))
             (try (have c33b2 : (t351 == (decide ((t348.length : Int) > 0))) = true := by simpa using c33))
             have c33e : decide ((t348.length : Int) > 0) = decide (0 < t348.length) := decide_eq_decide.2 (by omega)
             have c33b3 : (t351 == decide (0 < t348.length)) = true := by rw [← c33e]; exact c33b2
             clear c33
             have H' := Aside0.mk H
             clear H
             obtain ⟨hcz34_0, hcz34_1, hcz34_2⟩ := cz3_ BK341
             obtain ⟨hfz34_0, hfz34_1, hfz34_2⟩ := fz3_ BK341
             go_wp2_with (first | ((with_reducible refine gate_callee (f := 64) rfl ?_); refine goesL_ (some 52) rfl rfl Try.func64 (by kernel_rfl) rfl #[.agg #[.int .i64 t328, .slice Ao11 t329.length co11, .slice Ao12 t332.length co12], .int .i64 x6_1, .int .i64 x8_3] rfl mp_q ?_; (with_reducible refine (impl_NextTo.calls k3 t328 _ _ t329 _ _ t332 x6_1 x8_3 t348 _ ?side1 ?side2 ?side3 ?side4 A31.out).mono ?_); (case side1 => repeat (first | exact (Kd.R_reads' HO_342001.out).2.2 | (with_reducible refine Kd.C_alloc ?_ _) | (with_reducible refine Kd.C_drewN ?_ _) | (with_reducible refine Kd.C_drew ?_))); (case side2 => exact (Kd.R_reads' HO_342001.out).2.1); (case side3 => repeat (first | exact (Kd.R_reads' HO_342002.out).2.2 | (with_reducible refine Kd.C_alloc ?_ _) | (with_reducible refine Kd.C_drewN ?_ _) | (with_reducible refine Kd.C_drew ?_))); (case side4 => exact (Kd.R_reads' HO_342002.out).2.1); rintro e w35 ⟨v349, rfl, ho0, hb⟩; refine ⟨_, rfl, ?_⟩; replace HO_342001 := Aside0.mk (Kd.R_below (kR_q HO_342001) hb); replace HO_342002 := Aside0.mk (Kd.R_below (kR_q HO_342002) hb); have HO350 := Aside0.mk (Kd.R_lower (Kd.R_new' ho0 (Kd.R_lt (kR_q HO_7))) (below_size (bw_q HB))); replace HO_7 := Aside0.mk (Kd.R_elder' (kR_q HO_7) (Kd.R_base ho0) hb); replace BK341 := Aside0.mk (blk_below (g := gb341) (bk_q BK341) hb); replace HB := Aside0.mk (below_step (bw_q HB) hb); (try clear hb); (try clear hb2); (try clear hk); (try clear hi); (try clear ho0); obtain ⟨Ao36, co36, eo36⟩ := Kd.R_slice HO_7.out; subst eo36) | ((with_reducible refine gate_callee (f := 63) rfl ?_); refine goesL_ (some 55) rfl rfl Try.func63 (by kernel_rfl) rfl #[.slice Ao36 t343.length co36, .int .i64 x8_3] rfl mp_q ?_; (with_reducible refine (laws_in.calls k3 _ _ t343 x8_3 t351 _ ?side1 ?side2 A32.out).mono ?_); (case side1 => repeat (first | exact (Kd.R_reads' HO_7.out).2.2 | (with_reducible refine Kd.C_alloc ?_ _) | (with_reducible refine Kd.C_drewN ?_ _) | (with_reducible refine Kd.C_drew ?_))); (case side2 => exact (Kd.R_reads' HO_7.out).2.1); rintro e w' ⟨rfl, ⟨nd, rfl⟩⟩; refine ⟨_, rfl, ?_⟩; obtain ⟨Ao37, co37, eo37⟩ := Kd.R_slice HO350.out; subst eo37))
             go_loopg [10] k3 (fun kq v10 w' => ∃ (x10_4 : Int), v10 = .int .i64 x10_4 ∧ Aside0 (laws_FnNets.l2 kq x6_1 t343 x8_3 t348 x10_4 t328 t329 t332 = some r) ∧ Aside0 (kq ≤ k3) ∧ Aside0 (Kd.R (Kd.int .i64) 3 w' w.heap.size (fun k_ => some k_ ≠ ((.slice Ao37 t348.length co37) : Value).ownBlock) (.slice Ao36 t343.length co36) t343) ∧ Aside0 (Kd.R (Kd.int .i64) 3 w' w.heap.size (fun k_ => some k_ ≠ ((.slice Ao36 t343.length co36) : Value).ownBlock) (.slice Ao37 t348.length co37) t348) ∧ Aside0 (Kd.R k93 93 w' w.heap.size (fun _ => True) (.slice Ao11 t329.length co11) t329) ∧ Aside0 (Kd.R k102 102 w' w.heap.size (fun _ => True) (.slice Ao12 t332.length co12) t332) ∧ Aside0 (w'.heap[gb341]? = some (.cells #[.int .i64 t328, (.slice Ao11 t329.length co11), (.slice Ao12 t332.length co12)] 31 (0, 0))) ∧ Aside0 (Below w.heap.size w w'))
             case atStart => exact ⟨(1), (by first | rfl | (simp; done) | (simp [*]; done)), H', ⟨Nat.le_refl _⟩, ⟨by (with_reducible repeat (first | apply Kd.R_alloc | apply Kd.R_drewN | apply Kd.R_drew)); exact Kd.R_mono HO_7.out (fun _ hk => hk.2)⟩, ⟨by (with_reducible repeat (first | apply Kd.R_alloc | apply Kd.R_drewN | apply Kd.R_drew)); exact Kd.R_mono HO350.out (fun _ hk => hk.2)⟩, ⟨by (with_reducible repeat (first | apply Kd.R_alloc | apply Kd.R_drewN | apply Kd.R_drew)); exact HO_342001.out⟩, ⟨by (with_reducible repeat (first | apply Kd.R_alloc | apply Kd.R_drewN | apply Kd.R_drew)); exact HO_342002.out⟩, ⟨by refine bz_ ?_; exact BK341.out⟩, ⟨bw_q HB⟩⟩
             case round =>
              clear H'
              try clear c1
              try clear c2
              try clear p2
              try clear c3
              try clear c4
              try clear c6
              try clear c13
              try clear c14
              try clear c15
              try clear c15b0
              try clear c15b1
              try clear c18
              try clear c22
              try clear c29
              try clear c30
              try clear c30b0
              try clear c33
              try clear c33b0
              try clear c33b1
              try clear c33b2
              try clear hcz10_0
              try clear hcz10_1
              try clear hcz10_2
              try clear hcz18_0
              try clear hcz18_1
              try clear hcz18_2
              try clear hcz23_0
              try clear hcz23_1
              try clear hcz23_2
              try clear hcz26_0
              try clear hcz26_1
              try clear hcz26_2
              try clear hcz34_0
              try clear hcz34_1
              try clear hcz34_2
              try clear hfz10_0
              try clear hfz10_1
              try clear hfz10_2
              try clear hfz18_0
              try clear hfz18_1
              try clear hfz18_2
              try clear hfz23_0
              try clear hfz23_1
              try clear hfz23_2
              try clear hfz26_0
              try clear hfz26_1
              try clear hfz26_2
              try clear hfz34_0
              try clear hfz34_1
              try clear hfz34_2
              try clear p2
              obtain ⟨x10_4, rfl, HA, HK4, HO_7, HO_9, HO_342001, HO_342002, BK341, HB⟩ := hrel
              cases gk with
              | zero => exact absurd HA.out (by simp [laws_FnNets.l2])
              | succ k4 =>
               have H := HA.out
               clear HA
               simp only [laws_FnNets.l2] at H
               by_cases c38 : x10_4 ≤ t328
               ·rw [if_pos c38] at H
                have c38b0 : decide (x10_4 ≤ t328) = true := decide_eq_true c38
                clear c38
                replace H := Option.bind_eq_some_iff.mp H
                obtain ⟨t352, A390, H⟩ := H
                replace H : ((impl_CostTo.f k4 t328 t329 t332 x10_4 x6_1 x8_3).bind fun t353 => (if t352 = t353 then ((laws_in.f k4 t348 x10_4).bind fun t354 => (if ((decide (t352 > 0)) != t354) = true then (some false) else (laws_FnNets.l2 k4 x6_1 t343 x8_3 t348 (wrap64 (x10_4 + 1)) t328 t329 t332))) else (some false))) = some r := H
                have A39 := Aside0.mk A390
                clear A390
                replace H := Option.bind_eq_some_iff.mp H
                obtain ⟨t353, A400, H⟩ := H
                replace H : (if t352 = t353 then ((laws_in.f k4 t348 x10_4).bind fun t354 => (if ((decide (t352 > 0)) != t354) = true then (some false) else (laws_FnNets.l2 k4 x6_1 t343 x8_3 t348 (wrap64 (x10_4 + 1)) t328 t329 t332))) else (some false)) = some r := H
                have A40 := Aside0.mk A400
                clear A400
                by_cases c41 : t352 = t353
                ·rw [if_pos c41] at H
                 have c41b0 : (t352 == t353) = true := beq_iff_eq.mpr c41
                 have c41b1 : (t352 != t353) = false := bne_eq_false_iff_eq.mpr c41
                 clear c41
                 replace H := Option.bind_eq_some_iff.mp H
                 obtain ⟨t354, A420, H⟩ := H
                 replace H : (if ((decide (t352 > 0)) != t354) = true then (some false) else (laws_FnNets.l2 k4 x6_1 t343 x8_3 t348 (wrap64 (x10_4 + 1)) t328 t329 t332)) = some r := H
                 have A42 := Aside0.mk A420
                 clear A420
                 by_cases c43 : ((decide (t352 > 0)) != t354) = true
                 ·rw [if_pos c43] at H
                  have c43b0 : ((decide (t352 > 0)) != t354) = true := c43
                  (try (have c43b1 : decide ((decide (t352 > 0)) = t354) = false := by simpa using c43))
                  (try (have c43b2 : ((decide (t352 > 0)) == t354) = false := by simpa using c43))
                  (try (have c43b3 : ¬ ((decide (t352 > 0)) = t354) := by simpa using c43))
                  clear c43
                  exact absurd (Option.some.inj H) (by rw [hr_]; decide)
                 ·rw [if_neg c43] at H
                  have c43b0 : ((decide (t352 > 0)) != t354) = false := by simpa using c43
                  (try (have c43b1 : decide ((decide (t352 > 0)) = t354) = true := by simpa using c43))
                  (try (have c43b2 : ((decide (t352 > 0)) == t354) = true := by simpa using c43))
                  clear c43
                  have H' := Aside0.mk H
                  clear H
                  obtain ⟨hcz44_0, hcz44_1, hcz44_2⟩ := cz3_ BK341
                  obtain ⟨hfz44_0, hfz44_1, hfz44_2⟩ := fz3_ BK341
                  go_wp2_with (first | ((with_reducible refine gate_callee (f := 65) rfl ?_); refine goesL_ (some 70) rfl rfl Try.func65 (by kernel_rfl) rfl #[.agg #[.int .i64 t328, .slice Ao11 t329.length co11, .slice Ao12 t332.length co12], .int .i64 x6_1, .int .i64 x10_4, .int .i64 x8_3] rfl mp_q ?_; (with_reducible refine (impl_CostTo.calls k4 t328 _ _ t329 _ _ t332 x6_1 x10_4 x8_3 t352 _ ?side1 ?side2 ?side3 ?side4 A39.out).mono ?_); (case side1 => repeat (first | exact (Kd.R_reads' HO_342001.out).2.2 | (with_reducible refine Kd.C_alloc ?_ _) | (with_reducible refine Kd.C_drewN ?_ _) | (with_reducible refine Kd.C_drew ?_))); (case side2 => exact (Kd.R_reads' HO_342001.out).2.1); (case side3 => repeat (first | exact (Kd.R_reads' HO_342002.out).2.2 | (with_reducible refine Kd.C_alloc ?_ _) | (with_reducible refine Kd.C_drewN ?_ _) | (with_reducible refine Kd.C_drew ?_))); (case side4 => exact (Kd.R_reads' HO_342002.out).2.1); rintro e w45 ⟨rfl, hb⟩; refine ⟨_, rfl, ?_⟩; replace HO_7 := Aside0.mk (Kd.R_below (kR_q HO_7) hb); replace HO_9 := Aside0.mk (Kd.R_below (kR_q HO_9) hb); replace HO_342001 := Aside0.mk (Kd.R_below (kR_q HO_342001) hb); replace HO_342002 := Aside0.mk (Kd.R_below (kR_q HO_342002) hb); replace BK341 := Aside0.mk (blk_below (g := gb341) (bk_q BK341) hb); replace HB := Aside0.mk (below_step (bw_q HB) hb); (try clear hb); (try clear hb2); (try clear hk); (try clear hi); have hcz46_0 : w45.cell? ⟨gb341, 0, none⟩ = some (.int .i64 t328) := (blk_cell BK341.out 0).trans rfl; have hcz46_1 : w45.cell? ⟨gb341, 1, none⟩ = some (.slice Ao11 t329.length co11) := (blk_cell BK341.out 1).trans rfl; have hcz46_2 : w45.cell? ⟨gb341, 2, none⟩ = some (.slice Ao12 t332.length co12) := (blk_cell BK341.out 2).trans rfl; have hfz46_0 := blk_frozen BK341.out 0; have hfz46_1 := blk_frozen BK341.out 1; have hfz46_2 := blk_frozen BK341.out 2) | ((with_reducible refine gate_callee (f := 65) rfl ?_); refine goesL_ (some 76) rfl rfl Try.func65 (by kernel_rfl) rfl #[.agg #[.int .i64 t328, .slice Ao11 t329.length co11, .slice Ao12 t332.length co12], .int .i64 x10_4, .int .i64 x6_1, .int .i64 x8_3] rfl mp_q ?_; (with_reducible refine (impl_CostTo.calls k4 t328 _ _ t329 _ _ t332 x10_4 x6_1 x8_3 t353 _ ?side1 ?side2 ?side3 ?side4 A40.out).mono ?_); (case side1 => repeat (first | exact (Kd.R_reads' HO_342001.out).2.2 | (with_reducible refine Kd.C_alloc ?_ _) | (with_reducible refine Kd.C_drewN ?_ _) | (with_reducible refine Kd.C_drew ?_))); (case side2 => exact (Kd.R_reads' HO_342001.out).2.1); (case side3 => repeat (first | exact (Kd.R_reads' HO_342002.out).2.2 | (with_reducible refine Kd.C_alloc ?_ _) | (with_reducible refine Kd.C_drewN ?_ _) | (with_reducible refine Kd.C_drew ?_))); (case side4 => exact (Kd.R_reads' HO_342002.out).2.1); rintro e w47 ⟨rfl, hb⟩; refine ⟨_, rfl, ?_⟩; replace HO_7 := Aside0.mk (Kd.R_below (kR_q HO_7) hb); replace HO_9 := Aside0.mk (Kd.R_below (kR_q HO_9) hb); replace HO_342001 := Aside0.mk (Kd.R_below (kR_q HO_342001) hb); replace HO_342002 := Aside0.mk (Kd.R_below (kR_q HO_342002) hb); replace BK341 := Aside0.mk (blk_below (g := gb341) (bk_q BK341) hb); replace HB := Aside0.mk (below_step (bw_q HB) hb); (try clear hb); (try clear hb2); (try clear hk); (try clear hi)) | (go_at_call 63; (with_reducible refine (laws_in.calls k4 _ _ t348 x10_4 t354 _ ?side1 ?side2 A42.out).mono ?_); (case side1 => repeat (first | exact (Kd.R_reads' HO_9.out).2.2 | (with_reducible refine Kd.C_alloc ?_ _) | (with_reducible refine Kd.C_drewN ?_ _) | (with_reducible refine Kd.C_drew ?_))); (case side2 => exact (Kd.R_reads' HO_9.out).2.1); rintro e w' ⟨rfl, ⟨nd, rfl⟩⟩))
                  go_roundg k4
                  case measure => have := HK1.out; have := HJ16.out; have := HK3.out; have := HK4.out; omega
                  case rel => exact ⟨(wrap64 (x10_4 + 1)), (by first | rfl | (simp; done) | (simp [*]; done)), H', ⟨by have := HK1.out; have := HJ16.out; have := HK3.out; have := HK4.out; omega⟩, ⟨by (with_reducible repeat (first | apply Kd.R_alloc | apply Kd.R_drewN | apply Kd.R_drew)); exact HO_7.out⟩, ⟨by (with_reducible repeat (first | apply Kd.R_alloc | apply Kd.R_drewN | apply Kd.R_drew)); exact HO_9.out⟩, ⟨by (with_reducible repeat (first | apply Kd.R_alloc | apply Kd.R_drewN | apply Kd.R_drew)); exact HO_342001.out⟩, ⟨by (with_reducible repeat (first | apply Kd.R_alloc | apply Kd.R_drewN | apply Kd.R_drew)); exact HO_342002.out⟩, ⟨by refine bz_ ?_; exact BK341.out⟩, ⟨bw_q HB⟩⟩
                ·rw [if_neg c41] at H
                 have c41b0 : (t352 == t353) = false := beq_eq_false_iff_ne.mpr c41
                 have c41b1 : (t352 != t353) = true := bne_iff_ne.mpr c41
                 exact absurd (Option.some.inj H) (by rw [hr_]; decide)
               ·rw [if_neg c38] at H
                have c38b0 : decide (x10_4 ≤ t328) = false := decide_eq_false c38
                clear c38
                have H' := Aside0.mk H
                clear H
                obtain ⟨hcz48_0, hcz48_1, hcz48_2⟩ := cz3_ BK341
                obtain ⟨hfz48_0, hfz48_1, hfz48_2⟩ := fz3_ BK341
                go_wp2
                go_roundg k4
                case measure => have := HK1.out; have := HJ16.out; have := HK3.out; have := HK4.out; omega
                case rel => exact ⟨(wrap64 (x8_3 + 1)), (by first | rfl | (simp; done) | (simp [*]; done)), H', ⟨by have := HK1.out; have := HJ16.out; have := HK3.out; have := HK4.out; omega⟩, ⟨by (with_reducible repeat (first | apply Kd.R_alloc | apply Kd.R_drewN | apply Kd.R_drew)); exact Kd.R_mono HO_7.out (fun _ hk => trivial)⟩, ⟨by (with_reducible repeat (first | apply Kd.R_alloc | apply Kd.R_drewN | apply Kd.R_drew)); exact HO_342001.out⟩, ⟨by (with_reducible repeat (first | apply Kd.R_alloc | apply Kd.R_drewN | apply Kd.R_drew)); exact HO_342002.out⟩, ⟨by refine bz_ ?_; exact BK341.out⟩, ⟨bw_q HB⟩⟩
           ·rw [if_neg c30] at H
            have c30b0 : decide (x8_3 ≤ 2) = false := decide_eq_false c30
            clear c30
            have H' := Aside0.mk H
            clear H
            go_wp2
            go_roundg k3
            case measure => have := HK1.out; have := HJ16.out; have := HK3.out; omega
            case rel => exact ⟨(wrap64 (x6_1 + 1)), (by first | rfl | (simp; done) | (simp [*]; done)), H', ⟨by have := HK1.out; have := HJ16.out; have := HK3.out; omega⟩, ⟨by (with_reducible repeat (first | apply Kd.R_alloc | apply Kd.R_drewN | apply Kd.R_drew)); exact HO_342001.out⟩, ⟨by (with_reducible repeat (first | apply Kd.R_alloc | apply Kd.R_drewN | apply Kd.R_drew)); exact HO_342002.out⟩, ⟨by refine bz_ ?_; exact BK341.out⟩, ⟨bw_q HB⟩⟩
     ·rw [if_neg c15] at H
      have c15b0 : decide (x6_1 ≤ t328) = false := decide_eq_false c15
      clear c15
      (first | rw [c15b0] | rw [c15b1] | (simp only [i64_w, i32_w]; first | rw [c15b0] | rw [c15b1]) | skip)
      have H' := Aside0.mk H
      clear H
      obtain ⟨hcz49_0, hcz49_1, hcz49_2⟩ := cz3_ BK341
      obtain ⟨hfz49_0, hfz49_1, hfz49_2⟩ := fz3_ BK341
      go_wp2
      go_loopg [12] k1 (fun kq v12 w' => ∃ (x12_2 : Int), v12 = .int .i64 x12_2 ∧ Aside0 (laws_FnNets.l3 kq x12_2 t328 t329 t332 = some r) ∧ Aside0 (kq ≤ k1) ∧ Aside0 (Kd.R k93 93 w' w.heap.size (fun _ => True) (.slice Ao11 t329.length co11) t329) ∧ Aside0 (Kd.R k102 102 w' w.heap.size (fun _ => True) (.slice Ao12 t332.length co12) t332) ∧ Aside0 (w'.heap[gb341]? = some (.cells #[.int .i64 t328, (.slice Ao11 t329.length co11), (.slice Ao12 t332.length co12)] 31 (0, 0))) ∧ Aside0 (Below w.heap.size w w'))
      case atStart => exact ⟨(0), (by first | rfl | (simp; done) | (simp [*]; done)), H', ⟨Nat.le_refl _⟩, ⟨by (with_reducible repeat (first | apply Kd.R_alloc | apply Kd.R_drewN | apply Kd.R_drew)); exact HO_342001.out⟩, ⟨by (with_reducible repeat (first | apply Kd.R_alloc | apply Kd.R_drewN | apply Kd.R_drew)); exact HO_342002.out⟩, ⟨by refine bz_ ?_; exact BK341.out⟩, ⟨bw_q HB⟩⟩
      case round =>
       clear H'
       try clear c1
       try clear c2
       try clear p2
       try clear c3
       try clear c4
       try clear c6
       try clear p6
       try clear c13
       try clear c14
       try clear c15
       try clear c15b0
       try clear c15b1
       try clear c18
       try clear c22
       try clear c29
       try clear c30
       try clear c30b0
       try clear c33
       try clear c33b0
       try clear c33b1
       try clear c33b2
       try clear c38
       try clear c38b0
       try clear c41
       try clear c41b0
       try clear c41b1
       try clear c43
       try clear c43b0
       try clear c43b1
       try clear c43b2
       try clear c47
       try clear hcz10_0
       try clear hcz10_1
       try clear hcz10_2
       try clear hcz18_0
       try clear hcz18_1
       try clear hcz18_2
       try clear hcz23_0
       try clear hcz23_1
       try clear hcz23_2
       try clear hcz26_0
       try clear hcz26_1
       try clear hcz26_2
       try clear hcz34_0
       try clear hcz34_1
       try clear hcz34_2
       try clear hcz44_0
       try clear hcz44_1
       try clear hcz44_2
       try clear hcz46_0
       try clear hcz46_1
       try clear hcz46_2
       try clear hcz48_0
       try clear hcz48_1
       try clear hcz48_2
       try clear hcz49_0
       try clear hcz49_1
       try clear hcz49_2
       try clear hfz10_0
       try clear hfz10_1
       try clear hfz10_2
       try clear hfz18_0
       try clear hfz18_1
       try clear hfz18_2
       try clear hfz23_0
       try clear hfz23_1
       try clear hfz23_2
       try clear hfz26_0
       try clear hfz26_1
       try clear hfz26_2
       try clear hfz34_0
       try clear hfz34_1
       try clear hfz34_2
       try clear hfz44_0
       try clear hfz44_1
       try clear hfz44_2
       try clear hfz46_0
       try clear hfz46_1
       try clear hfz46_2
       try clear hfz48_0
       try clear hfz48_1
       try clear hfz48_2
       try clear hfz49_0
       try clear hfz49_1
       try clear hfz49_2
       try clear p2
       obtain ⟨x12_2, rfl, HA, HK2, HO_342001, HO_342002, BK341, HB⟩ := hrel
       cases gk with
       | zero => exact absurd HA.out (by simp [laws_FnNets.l3])
       | succ k2 =>
        have H := HA.out
        clear HA
        simp only [laws_FnNets.l3] at H
        by_cases c50 : x12_2 < (t329.length : Int)
        ·rw [if_pos c50] at H
         have c50b0 : decide (x12_2 < (t329.length : Int)) = true := decide_eq_true c50
         clear c50
         by_cases c51 : 0 ≤ x12_2
         ·rw [if_pos c51] at H
          have c51b0 : decide (0 ≤ x12_2) = true := decide_eq_true c51
          clear c51
          replace H := Option.bind_eq_some_iff.mp H
          obtain ⟨t358, A520, H⟩ := H
          replace H : (if t358 = true then ((impl_CostTo.f k2 t328 t329 t332 ((rd_T93 t329 x12_2).f0) ((rd_T93 t329 x12_2).f1) ((rd_T93 t329 x12_2).f3)).bind fun t359 => (if t359 = ((rd_T93 t329 x12_2).f2) then (laws_FnNets.l3 k2 (wrap64 (x12_2 + 1)) t328 t329 t332) else (some false))) else (some false)) = some r := H
          have A52 := Aside0.mk A520
          clear A520
          by_cases c53 : t358 = true
          ·subst c53
           have H1 : ((impl_CostTo.f k2 t328 t329 t332 ((rd_T93 t329 x12_2).f0) ((rd_T93 t329 x12_2).f1) ((rd_T93 t329 x12_2).f3)).bind fun t359 => (if t359 = ((rd_T93 t329 x12_2).f2) then (laws_FnNets.l3 k2 (wrap64 (x12_2 + 1)) t328 t329 t332) else (some false))) = some r := by rw [if_pos rfl] at H; exact H
           clear H
           have H := H1
           clear H1
           replace H := Option.bind_eq_some_iff.mp H
           obtain ⟨t359, A540, H⟩ := H
           replace H : (if t359 = ((rd_T93 t329 x12_2).f2) then (laws_FnNets.l3 k2 (wrap64 (x12_2 + 1)) t328 t329 t332) else (some false)) = some r := H
           have A54 := Aside0.mk A540
           clear A540
           by_cases c55 : t359 = ((rd_T93 t329 x12_2).f2)
           ·rw [if_pos c55] at H
            have c55b0 : (t359 == ((rd_T93 t329 x12_2).f2)) = true := beq_iff_eq.mpr c55
            have c55b1 : (t359 != ((rd_T93 t329 x12_2).f2)) = false := bne_eq_false_iff_eq.mpr c55
            clear c55
            have H' := Aside0.mk H
            clear H
            obtain ⟨hcz56_0, hcz56_1, hcz56_2⟩ := cz3_ BK341
            obtain ⟨hfz56_0, hfz56_1, hfz56_2⟩ := fz3_ BK341
            have p356 : 0 ≤ (x12_2 : Int) := of_decide_eq_true as_q
            have q356 : x12_2 < (t329.length : Int) := of_decide_eq_true as_q
            obtain ⟨ad356, e356, hx356_0, hx356_1, hx356_2, hx356_3⟩ := at_T93 (Kd.R_reads' HO_342001.out).2.2 x12_2 p356 q356
            cases e356
            replace p356 := eq_true p356
            replace q356 := eq_true q356
            try go_wp2_with (first | ((with_reducible refine gate_dst (N := 13) rfl ?_); (try (refine gate_guard (by rfl) ?_; dsimp only)); refine box_q 13 #[.int .i64 0, .int .i64 0, .int .i64 0, .int .i64 0] 93 ?_; intro gb357 hg w57 hbox hb; replace HO_342001 := Aside0.mk (Kd.R_below (Kd.R_elderB (kR_q HO_342001) gb357 (Nat.le_of_eq hg.symm)) hb); replace HO_342002 := Aside0.mk (Kd.R_below (kR_q HO_342002) hb); have BK357 := Aside0.mk (hbox); have GW357 := Aside0.mk ((by rw [hg]; exact (below_size (bw_q HB)) : w.heap.size ≤ gb357)); have GE357 := Aside0.mk ((by rw [hg]; exact (below_size (bw_q HB)) : w.heap.size ≤ gb357)); replace HB := Aside0.mk (below_step (bw_q HB) hb); have NB341_357 := Aside0.mk ((by rw [hg]; exact Nat.ne_of_lt (blk_lt (g := gb341) (o := .cells #[.int .i64 t328, .slice (some ad356) t329.length co11, .slice Ao12 t332.length co12] 31 (0, 0)) (bk_q BK341)) : gb341 ≠ gb357)); have NB357_341 := Aside0.mk ((by rw [hg]; exact Nat.ne_of_gt (blk_lt (g := gb341) (o := .cells #[.int .i64 t328, .slice (some ad356) t329.length co11, .slice Ao12 t332.length co12] 31 (0, 0)) (bk_q BK341)) : gb357 ≠ gb341)); replace BK341 := Aside0.mk (blk_below (g := gb341) (bk_q BK341) hb); clear hb hbox hg; have hnb58 := NB357_341.out; have hnc58 := NB341_357.out; have hcz59_0 : w57.cell? ⟨gb357, 0, none⟩ = some (.int .i64 0) := (blk_cell BK357.out 0).trans rfl; have hcz59_1 : w57.cell? ⟨gb357, 1, none⟩ = some (.int .i64 0) := (blk_cell BK357.out 1).trans rfl; have hcz59_2 : w57.cell? ⟨gb357, 2, none⟩ = some (.int .i64 0) := (blk_cell BK357.out 2).trans rfl; have hcz59_3 : w57.cell? ⟨gb357, 3, none⟩ = some (.int .i64 0) := (blk_cell BK357.out 3).trans rfl; have hfz59_0 := blk_frozen BK357.out 0; have hfz59_1 := blk_frozen BK357.out 1; have hfz59_2 := blk_frozen BK357.out 2; have hfz59_3 := blk_frozen BK357.out 3))
            have n0_ : Aside0 (Kd.R k93 93 ((((w57.setCell ⟨gb357, 0, none⟩ (.int .i64 ((rd_T93 t329 x12_2).f0))).setCell ⟨gb357, 1, none⟩ (.int .i64 ((rd_T93 t329 x12_2).f1))).setCell ⟨gb357, 2, none⟩ (.int .i64 ((rd_T93 t329 x12_2).f2))).setCell ⟨gb357, 3, none⟩ (.int .i64 ((rd_T93 t329 x12_2).f3))) w.heap.size (fun k_ => k_ ≠ gb357) (.slice (some ad356) t329.length co11) t329) := ⟨by (with_reducible repeat (first | apply Kd.R_alloc | apply Kd.R_drewN | apply Kd.R_drew)); exact Kd.R_mono (Kd.R_far (p := ⟨gb357, 3, none⟩) (Kd.R_far (p := ⟨gb357, 2, none⟩) (Kd.R_far (p := ⟨gb357, 1, none⟩) (Kd.R_far (p := ⟨gb357, 0, none⟩) (Kd.R_mono HO_342001.out (fun k_ hk => (⟨hk, hk.2⟩ : _ ∧ k_ ≠ gb357))) (fun _ hk => hk.2) (.int .i64 ((rd_T93 t329 x12_2).f0))) (fun _ hk => hk.2) (.int .i64 ((rd_T93 t329 x12_2).f1))) (fun _ hk => hk.2) (.int .i64 ((rd_T93 t329 x12_2).f2))) (fun _ hk => hk.2) (.int .i64 ((rd_T93 t329 x12_2).f3))) (fun _ hk => hk.1.2)⟩
            have n1_ : Aside0 (Kd.R k102 102 ((((w57.setCell ⟨gb357, 0, none⟩ (.int .i64 ((rd_T93 t329 x12_2).f0))).setCell ⟨gb357, 1, none⟩ (.int .i64 ((rd_T93 t329 x12_2).f1))).setCell ⟨gb357, 2, none⟩ (.int .i64 ((rd_T93 t329 x12_2).f2))).setCell ⟨gb357, 3, none⟩ (.int .i64 ((rd_T93 t329 x12_2).f3))) w.heap.size (fun _ => True) (.slice Ao12 t332.length co12) t332) := ⟨by (with_reducible repeat (first | apply Kd.R_alloc | apply Kd.R_drewN | apply Kd.R_drew)); exact Kd.R_mono (Kd.R_far (p := ⟨gb357, 3, none⟩) (Kd.R_far (p := ⟨gb357, 2, none⟩) (Kd.R_far (p := ⟨gb357, 1, none⟩) (Kd.R_far (p := ⟨gb357, 0, none⟩) (Kd.R_types HO_342002.out BK357.out (by decide)) (fun _ hk => hk.2) (.int .i64 ((rd_T93 t329 x12_2).f0))) (fun _ hk => hk.2) (.int .i64 ((rd_T93 t329 x12_2).f1))) (fun _ hk => hk.2) (.int .i64 ((rd_T93 t329 x12_2).f2))) (fun _ hk => hk.2) (.int .i64 ((rd_T93 t329 x12_2).f3))) (fun _ hk => trivial)⟩
            have n2_ : Aside0 (((((w57.setCell ⟨gb357, 0, none⟩ (.int .i64 ((rd_T93 t329 x12_2).f0))).setCell ⟨gb357, 1, none⟩ (.int .i64 ((rd_T93 t329 x12_2).f1))).setCell ⟨gb357, 2, none⟩ (.int .i64 ((rd_T93 t329 x12_2).f2))).setCell ⟨gb357, 3, none⟩ (.int .i64 ((rd_T93 t329 x12_2).f3))).heap[gb341]? = some (.cells #[.int .i64 t328, .slice (some ad356) t329.length co11, .slice Ao12 t332.length co12] 31 (0, 0))) := ⟨by refine bz_ ?_; refine blk_far ?_ NB341_357.out _; refine bz_ ?_; refine blk_far ?_ NB341_357.out _; refine bz_ ?_; refine blk_far ?_ NB341_357.out _; refine bz_ ?_; refine blk_far ?_ NB341_357.out _; refine bz_ ?_; exact BK341.out⟩
            have n3_ : Aside0 (((((w57.setCell ⟨gb357, 0, none⟩ (.int .i64 ((rd_T93 t329 x12_2).f0))).setCell ⟨gb357, 1, none⟩ (.int .i64 ((rd_T93 t329 x12_2).f1))).setCell ⟨gb357, 2, none⟩ (.int .i64 ((rd_T93 t329 x12_2).f2))).setCell ⟨gb357, 3, none⟩ (.int .i64 ((rd_T93 t329 x12_2).f3))).heap[gb357]? = some (.cells #[.int .i64 ((rd_T93 t329 x12_2).f0), .int .i64 ((rd_T93 t329 x12_2).f1), .int .i64 ((rd_T93 t329 x12_2).f2), .int .i64 ((rd_T93 t329 x12_2).f3)] 93 (0, 0))) := ⟨by refine bz_ ?_; refine blk_put (cs := #[.int .i64 ((rd_T93 t329 x12_2).f0), .int .i64 ((rd_T93 t329 x12_2).f1), .int .i64 ((rd_T93 t329 x12_2).f2), .int .i64 0]) ?_ 3 _ rfl; refine bz_ ?_; refine blk_put (cs := #[.int .i64 ((rd_T93 t329 x12_2).f0), .int .i64 ((rd_T93 t329 x12_2).f1), .int .i64 0, .int .i64 0]) ?_ 2 _ rfl; refine bz_ ?_; refine blk_put (cs := #[.int .i64 ((rd_T93 t329 x12_2).f0), .int .i64 0, .int .i64 0, .int .i64 0]) ?_ 1 _ rfl; refine bz_ ?_; refine blk_put (cs := #[.int .i64 0, .int .i64 0, .int .i64 0, .int .i64 0]) ?_ 0 _ rfl; refine bz_ ?_; exact BK357.out⟩
            have n4_ : Aside0 (Below w.heap.size w ((((w57.setCell ⟨gb357, 0, none⟩ (.int .i64 ((rd_T93 t329 x12_2).f0))).setCell ⟨gb357, 1, none⟩ (.int .i64 ((rd_T93 t329 x12_2).f1))).setCell ⟨gb357, 2, none⟩ (.int .i64 ((rd_T93 t329 x12_2).f2))).setCell ⟨gb357, 3, none⟩ (.int .i64 ((rd_T93 t329 x12_2).f3)))) := ⟨bw_q HB⟩
            (try clear HO_342001)
            (try clear HO_342002)
            (try clear BK341)
            (try clear BK357)
            (try clear HB)
            generalize ((((w57.setCell ⟨gb357, 0, none⟩ (.int .i64 ((rd_T93 t329 x12_2).f0))).setCell ⟨gb357, 1, none⟩ (.int .i64 ((rd_T93 t329 x12_2).f1))).setCell ⟨gb357, 2, none⟩ (.int .i64 ((rd_T93 t329 x12_2).f2))).setCell ⟨gb357, 3, none⟩ (.int .i64 ((rd_T93 t329 x12_2).f3))) = w60 at n0_ n1_ n2_ n3_ n4_ ⊢
            have HO_342001 := n0_
            have HO_342002 := n1_
            have BK341 := n2_
            have BK357 := n3_
            have HB := n4_
            clear n0_ n1_ n2_ n3_ n4_
            replace HO_342001 := Aside0.mk (Kd.R_drew HO_342001.out)
            replace HO_342002 := Aside0.mk (Kd.R_drew HO_342002.out)
            replace BK341 := Aside0.mk (blk_drew BK341.out)
            replace BK357 := Aside0.mk (blk_drew BK357.out)
            replace HB := Aside0.mk (below_drew1 HB.out)
            refine start_ (n := 18) (S := fun w' => w'.cell? ⟨gb341, 0, none⟩ = some (.int .i64 t328) ∧ w'.cell? ⟨gb341, 1, none⟩ = some (.slice (some ad356) t329.length co11) ∧ w'.cell? ⟨gb341, 2, none⟩ = some (.slice Ao12 t332.length co12) ∧ w'.cell? ⟨gb357, 0, none⟩ = some (.int .i64 ((rd_T93 t329 x12_2).f0)) ∧ w'.cell? ⟨gb357, 1, none⟩ = some (.int .i64 ((rd_T93 t329 x12_2).f1)) ∧ w'.cell? ⟨gb357, 2, none⟩ = some (.int .i64 ((rd_T93 t329 x12_2).f2)) ∧ w'.cell? ⟨gb357, 3, none⟩ = some (.int .i64 ((rd_T93 t329 x12_2).f3))) (ds := []) (bL 18 0) (by kernel_rfl) rfl rfl ⟨(blk_cell BK341.out 0).trans rfl, (blk_cell BK341.out 1).trans rfl, (blk_cell BK341.out 2).trans rfl, (blk_cell BK357.out 0).trans rfl, (blk_cell BK357.out 1).trans rfl, (blk_cell BK357.out 2).trans rfl, (blk_cell BK357.out 3).trans rfl⟩ (fun hHeld => ?_); refine with_tabW laws_FnNets.tab28 laws_FnNets.bits28 (fun HT_ HW_ => ?_)
            generalize w60.drew = w61 at HO_342001 HO_342002 BK341 BK357 HB hHeld ⊢
            refine pq_ 0 98 (bL 18 1) HT_.out rfl rfl ?_
            refine take_ (i := 1) (N := some 99) (v := ?_) (a' := ?_) (bL 18 3) rfl rfl (take_ofW HT_.out HW_.out (by kernel_rfl)) (fun _ _ _ h => h) (Or.inl ⟨by rfl, ?_⟩) hHeld ?_ ?_; rotate_left; (rintro w' ⟨s0, s1, s2, s3, s4, s5, s6⟩; go_simp; with_reducible rfl); rotate_left; (exact put_q)
            refine take_ (i := 2) (N := some 100) (v := ?_) (a' := ?_) (bL 18 7) rfl rfl (take_ofW HT_.out HW_.out (by kernel_rfl)) (fun _ _ _ h => h) (Or.inl ⟨by rfl, ?_⟩) hHeld ?_ ?_; rotate_left; (rintro w' ⟨s0, s1, s2, s3, s4, s5, s6⟩; go_simp; with_reducible rfl); rotate_left; (exact put_q)
            refine one_ (i := 3) (N := some 101) (bL 18 15) rfl rfl (one_of HT_.out (by kernel_rfl)) (by decide) (fun K hK => ?_)
            refine goes_ Try.func66 (by kernel_rfl) rfl #[.int .i64 t328, .agg #[.int .i64 ((rd_T93 t329 x12_2).f0), .int .i64 ((rd_T93 t329 x12_2).f1), .int .i64 ((rd_T93 t329 x12_2).f2), .int .i64 ((rd_T93 t329 x12_2).f3)]] (by rfl) rfl rfl mp_q ?_
            with_reducible refine (impl_LinkOk.calls t328 ((rd_T93 t329 x12_2).f0) ((rd_T93 t329 x12_2).f1) ((rd_T93 t329 x12_2).f2) ((rd_T93 t329 x12_2).f3) true _ A52.out).mono ?_
            rintro e w62 ⟨rfl, hb⟩
            refine ⟨_, rfl, ?_⟩
            replace HO_342001 := Aside0.mk (Kd.R_below (kR_q HO_342001) hb)
            replace HO_342002 := Aside0.mk (Kd.R_below (kR_q HO_342002) hb)
            replace BK341 := Aside0.mk (blk_below (g := gb341) (bk_q BK341) hb)
            replace BK357 := Aside0.mk (blk_below (g := gb357) (bk_q BK357) hb)
            replace HB := Aside0.mk (below_step (bw_q HB) hb)
            (try clear hb)
            (try clear hb2)
            (try clear hk)
            (try clear hi)
            refine hK.out _ _ ⟨(blk_cell BK341.out 0).trans rfl, (blk_cell BK341.out 1).trans rfl, (blk_cell BK341.out 2).trans rfl, (blk_cell BK357.out 0).trans rfl, (blk_cell BK357.out 1).trans rfl, (blk_cell BK357.out 2).trans rfl, (blk_cell BK357.out 3).trans rfl⟩ (fun hHeld => ?_)
            clear hK K
            refine norm_ (a' := ?_) ?_ ?_; rotate_left; (show Act.put _ (some 101) _ = _; simp only [Act.put, List.setIfInBounds_toArray, List.set_cons_zero, List.set_cons_succ, i64_w, i32_w]; rfl)
            refine pq_ 4 102 (bL 18 31) HT_.out rfl rfl ?_
            refine pq_ 5 103 (bL 18 63) HT_.out rfl rfl ?_
            refine pq_ 7 105 (bL 18 191) HT_.out rfl rfl ?_
            refine pq_ 9 107 (bL 18 703) HT_.out rfl rfl ?_
            refine pq_ 11 109 (bL 18 2751) HT_.out rfl rfl ?_
            refine pq_ 14 112 (bL 18 19135) HT_.out rfl rfl ?_
            refine take_ (i := 6) (N := some 104) (v := ?_) (a' := ?_) (bL 18 19199) rfl rfl (take_ofW HT_.out HW_.out (by kernel_rfl)) (fun _ _ _ h => h) (Or.inl ⟨by rfl, ?_⟩) hHeld ?_ ?_; rotate_left; (rintro w' ⟨s0, s1, s2, s3, s4, s5, s6⟩; go_simp; with_reducible rfl); rotate_left; (exact put_q)
            refine take_ (i := 8) (N := some 106) (v := ?_) (a' := ?_) (bL 18 19455) rfl rfl (take_ofW HT_.out HW_.out (by kernel_rfl)) (fun _ _ _ h => h) (Or.inl ⟨by rfl, ?_⟩) hHeld ?_ ?_; rotate_left; (rintro w' ⟨s0, s1, s2, s3, s4, s5, s6⟩; go_simp; with_reducible rfl); rotate_left; (exact put_q)
            refine take_ (i := 10) (N := some 108) (v := ?_) (a' := ?_) (bL 18 20479) rfl rfl (take_ofW HT_.out HW_.out (by kernel_rfl)) (fun _ _ _ h => h) (Or.inl ⟨by rfl, ?_⟩) hHeld ?_ ?_; rotate_left; (rintro w' ⟨s0, s1, s2, s3, s4, s5, s6⟩; go_simp; with_reducible rfl); rotate_left; (exact put_q)
            refine take_ (i := 12) (N := some 110) (v := ?_) (a' := ?_) (bL 18 24575) rfl rfl (take_ofW HT_.out HW_.out (by kernel_rfl)) (fun _ _ _ h => h) (Or.inl ⟨by rfl, ?_⟩) hHeld ?_ ?_; rotate_left; (rintro w' ⟨s0, s1, s2, s3, s4, s5, s6⟩; go_simp; with_reducible rfl); rotate_left; (exact put_q)
            refine take_ (i := 15) (N := some 113) (v := ?_) (a' := ?_) (bL 18 57343) rfl rfl (take_ofW HT_.out HW_.out (by kernel_rfl)) (fun _ _ _ h => h) (Or.inl ⟨by rfl, ?_⟩) hHeld ?_ ?_; rotate_left; (rintro w' ⟨s0, s1, s2, s3, s4, s5, s6⟩; go_simp; with_reducible rfl); rotate_left; (exact put_q)
            refine one_ (i := 13) (N := some 111) (bL 18 65535) rfl rfl (one_of HT_.out (by kernel_rfl)) (by decide) (fun K hK => ?_)
            refine goes_ Try.func65 (by kernel_rfl) rfl #[.agg #[.int .i64 t328, .slice (some ad356) t329.length co11, .slice Ao12 t332.length co12], .int .i64 ((rd_T93 t329 x12_2).f0), .int .i64 ((rd_T93 t329 x12_2).f1), .int .i64 ((rd_T93 t329 x12_2).f3)] (by rfl) rfl rfl mp_q ?_
            with_reducible refine (impl_CostTo.calls k2 t328 _ _ t329 _ _ t332 ((rd_T93 t329 x12_2).f0) ((rd_T93 t329 x12_2).f1) ((rd_T93 t329 x12_2).f3) t359 _ ?side1 ?side2 ?side3 ?side4 A54.out).mono ?_
            (case side1 => repeat (first | exact (Kd.R_reads' HO_342001.out).2.2 | (with_reducible refine Kd.C_alloc ?_ _) | (with_reducible refine Kd.C_drewN ?_ _) | (with_reducible refine Kd.C_drew ?_)))
            (case side2 => exact (Kd.R_reads' HO_342001.out).2.1)
            (case side3 => repeat (first | exact (Kd.R_reads' HO_342002.out).2.2 | (with_reducible refine Kd.C_alloc ?_ _) | (with_reducible refine Kd.C_drewN ?_ _) | (with_reducible refine Kd.C_drew ?_)))
            (case side4 => exact (Kd.R_reads' HO_342002.out).2.1)
            rintro e w63 ⟨rfl, hb⟩
            refine ⟨_, rfl, ?_⟩
            replace HO_342001 := Aside0.mk (Kd.R_below (kR_q HO_342001) hb)
            replace HO_342002 := Aside0.mk (Kd.R_below (kR_q HO_342002) hb)
            replace BK341 := Aside0.mk (blk_below (g := gb341) (bk_q BK341) hb)
            replace BK357 := Aside0.mk (blk_below (g := gb357) (bk_q BK357) hb)
            replace HB := Aside0.mk (below_step (bw_q HB) hb)
            (try clear hb)
            (try clear hb2)
            (try clear hk)
            (try clear hi)
            refine hK.out _ _ ⟨(blk_cell BK341.out 0).trans rfl, (blk_cell BK341.out 1).trans rfl, (blk_cell BK341.out 2).trans rfl, (blk_cell BK357.out 0).trans rfl, (blk_cell BK357.out 1).trans rfl, (blk_cell BK357.out 2).trans rfl, (blk_cell BK357.out 3).trans rfl⟩ (fun hHeld => ?_)
            clear hK K
            refine norm_ (a' := ?_) ?_ ?_; rotate_left; (show Act.put _ (some 111) _ = _; simp only [Act.put, List.setIfInBounds_toArray, List.set_cons_zero, List.set_cons_succ, i64_w, i32_w]; rfl)
            refine pq_ 16 114 (bL 18 131071) HT_.out rfl rfl ?_
            refine pq_ 17 115 (bL 18 262143) HT_.out rfl rfl ?_
            refine done_ (done_of HT_.out (by kernel_rfl)) ?_
            try go_wp2
            go_roundg k2
            case measure => have := HK1.out; have := HK2.out; omega
            case rel => exact ⟨(wrap64 (x12_2 + 1)), (by first | rfl | (simp; done) | (simp [*]; done)), H', ⟨by have := HK1.out; have := HK2.out; omega⟩, ⟨by (with_reducible repeat (first | apply Kd.R_alloc | apply Kd.R_drewN | apply Kd.R_drew)); exact Kd.R_mono HO_342001.out (fun _ hk => trivial)⟩, ⟨by (with_reducible repeat (first | apply Kd.R_alloc | apply Kd.R_drewN | apply Kd.R_drew)); exact HO_342002.out⟩, ⟨by refine bz_ ?_; exact BK341.out⟩, ⟨bw_q HB⟩⟩
           ·rw [if_neg c55] at H
            have c55b0 : (t359 == ((rd_T93 t329 x12_2).f2)) = false := beq_eq_false_iff_ne.mpr c55
            have c55b1 : (t359 != ((rd_T93 t329 x12_2).f2)) = true := bne_iff_ne.mpr c55
            exact absurd (Option.some.inj H) (by rw [hr_]; decide)
          ·replace c53 := Bool.eq_false_iff.mpr c53
           subst c53
           have H1 : (some false) = some r := by rw [if_neg (show ¬ (false = true) by decide)] at H; exact H
           clear H
           have H := H1
           clear H1
           exact absurd (Option.some.inj H) (by rw [hr_]; decide)
         ·rw [if_neg c51] at H
          exact absurd H (by simp)
        ·rw [if_neg c50] at H
         have c50b0 : decide (x12_2 < (t329.length : Int)) = false := decide_eq_false c50
         clear c50
         replace H := Option.bind_eq_some_iff.mp H
         obtain ⟨t355, A640, H⟩ := H
         replace H : (some (!t355)) = some r := H
         have A64 := Aside0.mk A640
         clear A640
         obtain rfl := Option.some.inj H
         obtain ⟨hcz65_0, hcz65_1, hcz65_2⟩ := cz3_ BK341
         obtain ⟨hfz65_0, hfz65_1, hfz65_2⟩ := fz3_ BK341
         go_wp2_with (first | ((with_reducible refine gate_callee (f := 66) rfl ?_); refine goesL_ (some 119) rfl rfl Try.func66 (by kernel_rfl) rfl #[.int .i64 t328, .agg #[.int .i64 2, .int .i64 1, .int .i64 1, .int .i64 0]] rfl mp_q ?_; (with_reducible refine (impl_LinkOk.calls t328 2 1 1 0 t355 _ A64.out).mono ?_); rintro e w66 ⟨rfl, hb⟩; refine ⟨_, rfl, ?_⟩; replace HO_342001 := Aside0.mk (Kd.R_below (kR_q HO_342001) hb); replace HO_342002 := Aside0.mk (Kd.R_below (kR_q HO_342002) hb); replace BK341 := Aside0.mk (blk_below (g := gb341) (bk_q BK341) hb); replace HB := Aside0.mk (below_step (bw_q HB) hb); (try clear hb); (try clear hb2); (try clear hk); (try clear hi)))
         go_ret
         exact ⟨er_q, bw_q HB⟩
  ·replace c14 := Bool.eq_false_iff.mpr c14
   subst c14
   have H1 : (some false) = some r := by rw [if_neg (show ¬ (false = true) by decide)] at H; exact H
   clear H
   have H := H1
   clear H1
   exact absurd (Option.some.inj H) (by rw [hr_]; decide)

/-- THE ONE PURE STATEMENT of laws_FnNets: yours. -/
def laws_FnNets.Pure : Prop := ∀ (l0 : List Int), l0.length ≤ maxLen → l0.length * 1 ≤ 140737488351232 → (∀ x ∈ l0, (Lit.int .u8 x).wf = true) → ∃ k, laws_FnNets.f k l0 = some true
theorem laws_FnNets.walk (P : laws_FnNets.Pure) (a0 : Option Addr) (len0 cap0 : Nat) (z0 : List Int) (w : World) (w0 : (a0 = none ∧ len0 = 0 ∧ cap0 = 0 ∧ z0 = []) ∨ ∃ x, a0 = some x ∧ len0 ≤ cap0 ∧ cap0 ≤ maxLen ∧ z0.length = cap0 ∧ (∀ i, i < z0.length → w.cell? (x.add i) = some (.int .u8 (z0.getD i 0))) ∧ ∀ n ∈ z0, (Lit.int .u8 n).wf = true) (y0 : len0 * 1 ≤ 140737488351232) :
  Calls Try.prog 13 #[.slice a0 len0 cap0] w fun e w' => e = .returned (.bool true) ∧ Below w.heap.size w w' := by
 obtain ⟨l0, rfl, hr0, hm0, hw0, hc0⟩ := ReadsInt.ofRowC w0
 obtain ⟨k, h⟩ := P l0 hm0 y0 hw0
 refine (laws_FnNets.calls k _ _ l0 true w (Kd.C_of_reads (d := (0 : Int)) (h1 := fun _ => rfl) hr0) hc0 rfl h).mono ?_
 rintro e w' ⟨rfl, hd⟩
 exact ⟨rfl, hd⟩

end Go.Proofs.Ythjmdiggglkeaaa.Q
