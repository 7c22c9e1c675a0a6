import Derived.Test.YthjmdiggglkeaaaXFnMergesQimplnearOk
import Derived.Test.YthjmdiggglkeaaaXFnMergesQimplcopyRecords
import Derived.Test.YthjmdiggglkeaaaXFnMergesQspecSameKey
import Derived.Test.YthjmdiggglkeaaaXFnMergesQlawssameStore
import Derived.Test.YthjmdiggglkeaaaXFnMergesQspecDrawStores
import Derived.Test.YthjmdiggglkeaaaXFnMergesQimplNewer
/- A Go function as a Lean function, and its contract: for every input the Go code comes to what the Lean function tells. -/









namespace Go.Proofs.Ythjmdiggglkeaaa.Q
open Go.RowKit Go.Proofs.YthjmdiggglkeaaaW.PrintWords Go.Proofs.YthjmdiggglkeaaaW.PrintLast Go.Proofs.YthjmdiggglkeaaaW.PrintMore
attribute [local go_sem] max2_int min2_int max_two min_two max_three min_three max_four min_four   -- for this text's walks alone
set_option linter.unusedVariables false
set_option linter.unusedSimpArgs false

/-! ### laws_FnMerges: function 11 -/
mutual
def laws_FnMerges.j0 : Nat → List (S61) → List (S61) → List (S61) → Bool → Option (Bool)
 | 0, _, _, _, _ => none
 | k + 1, x3, x4, x5, x41 => if x41 = true then (some false) else (laws_FnMerges.l0 k x3 x4 x5 0)
def laws_FnMerges.l0 : Nat → List (S61) → List (S61) → List (S61) → Int → Option (Bool)
 | 0, _, _, _, _ => none
 | k + 1, x3, x4, x5, x6 => if x6 < (x5.length : Int) then (if 0 ≤ x6 then ((laws_newest.f k x3 ((rd_T61 x5 x6).f0) ((rd_T61 x5 x6).f1) ((rd_T61 x5 x6).f2) ((rd_T61 x5 x6).f3) ((rd_T61 x5 x6).f4) ((rd_T61 x5 x6).f5) ((rd_T61 x5 x6).f6) ((rd_T61 x5 x6).f7)).bind fun t1468 => ((laws_newest.f k x4 ((rd_T61 x5 x6).f0) ((rd_T61 x5 x6).f1) ((rd_T61 x5 x6).f2) ((rd_T61 x5 x6).f3) ((rd_T61 x5 x6).f4) ((rd_T61 x5 x6).f5) ((rd_T61 x5 x6).f6) ((rd_T61 x5 x6).f7)).bind fun t1470 => (if t1470 > t1468 then (if ((rd_T61 x5 x6).f4) = t1470 then (laws_FnMerges.l0 k x3 x4 x5 (wrap64 (x6 + 1))) else (some false)) else (if ((rd_T61 x5 x6).f4) = t1468 then (laws_FnMerges.l0 k x3 x4 x5 (wrap64 (x6 + 1))) else (some false))))) else (none)) else ((impl_Newer.f k x4 x3).bind fun t1473 => (laws_FnMerges.l1 k x3 x4 x5 t1473 0))
def laws_FnMerges.l1 : Nat → List (S61) → List (S61) → List (S61) → List (S61) → Int → Option (Bool)
 | 0, _, _, _, _, _ => none
 | k + 1, x3, x4, x5, x9, x10 => if x10 < (x9.length : Int) then (if 0 ≤ x10 then ((laws_newest.f k x3 ((rd_T61 x9 x10).f0) ((rd_T61 x9 x10).f1) ((rd_T61 x9 x10).f2) ((rd_T61 x9 x10).f3) ((rd_T61 x9 x10).f4) ((rd_T61 x9 x10).f5) ((rd_T61 x9 x10).f6) ((rd_T61 x9 x10).f7)).bind fun t1477 => (if t1477 ≥ ((rd_T61 x9 x10).f4) then (some false) else (laws_FnMerges.l1 k x3 x4 x5 x9 (wrap64 (x10 + 1))))) else (none)) else (laws_FnMerges.l2 k x4 x5 0 0)
def laws_FnMerges.l2 : Nat → List (S61) → List (S61) → Int → Int → Option (Bool)
 | 0, _, _, _, _ => none
 | k + 1, x4, x5, x11, x12 => if x12 ≤ 2 then ((impl_Scope.f k x5 x12).bind fun t1486 => (laws_FnMerges.l3 k x4 x5 x11 x12 t1486 0)) else ((impl_Scope.f k x5 9).bind fun t1479 => (if (wrap64 (x11 + (t1479.length : Int))) = (x5.length : Int) then ((impl_Merge.f k x5 x4).bind fun t1482 => ((laws_sameStore.f k t1482 x5).bind fun t1485 => (some t1485))) else (some false)))
def laws_FnMerges.l3 : Nat → List (S61) → List (S61) → Int → Int → List (S61) → Int → Option (Bool)
 | 0, _, _, _, _, _, _ => none
 | k + 1, x4, x5, x11, x12, x13, x14 => if x14 < (x13.length : Int) then (if 0 ≤ x14 then (if ((rd_T61 x13 x14).f0) = x12 then (laws_FnMerges.l3 k x4 x5 (wrap64 (x11 + 1)) x12 x13 (wrap64 (x14 + 1))) else (if ((rd_T61 x13 x14).f0) = 9 then (laws_FnMerges.l3 k x4 x5 x11 x12 x13 (wrap64 (x14 + 1))) else (some false))) else (none)) else (laws_FnMerges.l2 k x4 x5 x11 (wrap64 (x12 + 1)))
end
def laws_FnMerges.f (k : Nat) (l0 : List Int) : Option (Bool) := (laws_big.f l0).bind fun t1450 => (if t1450 = true then (some true) else ((spec_DrawStores.f k l0).bind fun bt1451 => ((impl_Merge.f k bt1451.1 bt1451.2).bind fun t1457 => ((impl_StoreOk.f k t1457).bind fun t1460 => (if t1460 = true then ((impl_Newer.f k bt1451.1 t1457).bind fun t1461 => (if (t1461.length : Int) = 0 then ((impl_Newer.f k bt1451.2 t1457).bind fun t1464 => (laws_FnMerges.j0 k bt1451.1 bt1451.2 t1457 ((t1464.length : Int) != 0))) else (laws_FnMerges.j0 k bt1451.1 bt1451.2 t1457 true))) else (laws_FnMerges.j0 k bt1451.1 bt1451.2 t1457 true))))))
theorem laws_FnMerges.mono_l : ∀ k, (∀ y0 y1 y2 y3, LeO (laws_FnMerges.j0 k y0 y1 y2 y3) (laws_FnMerges.j0 (k + 1) y0 y1 y2 y3)) ∧ (∀ y0 y1 y2 y3, LeO (laws_FnMerges.l0 k y0 y1 y2 y3) (laws_FnMerges.l0 (k + 1) y0 y1 y2 y3)) ∧ (∀ y0 y1 y2 y3 y4, LeO (laws_FnMerges.l1 k y0 y1 y2 y3 y4) (laws_FnMerges.l1 (k + 1) y0 y1 y2 y3 y4)) ∧ (∀ y0 y1 y2 y3, LeO (laws_FnMerges.l2 k y0 y1 y2 y3) (laws_FnMerges.l2 (k + 1) y0 y1 y2 y3)) ∧ (∀ y0 y1 y2 y3 y4 y5, LeO (laws_FnMerges.l3 k y0 y1 y2 y3 y4 y5) (laws_FnMerges.l3 (k + 1) y0 y1 y2 y3 y4 y5))
 | 0 => ⟨fun _ _ _ _ r h => by simp [laws_FnMerges.j0] at h, fun _ _ _ _ r h => by simp [laws_FnMerges.l0] at h, fun _ _ _ _ _ r h => by simp [laws_FnMerges.l1] at h, fun _ _ _ _ r h => by simp [laws_FnMerges.l2] at h, fun _ _ _ _ _ _ r h => by simp [laws_FnMerges.l3] at h⟩
 | k + 1 => by
  obtain ⟨ih0, ih1, ih2, ih3, ih4⟩ := laws_FnMerges.mono_l k
  refine ⟨?_, ?_, ?_, ?_, ?_⟩
  ·intro y0 y1 y2 y3
   unfold laws_FnMerges.j0
   repeat' first
   | (with_reducible exact ih0 _ _ _ _)
   | (with_reducible exact ih1 _ _ _ _)
   | (with_reducible exact ih2 _ _ _ _ _)
   | (with_reducible exact ih3 _ _ _ _)
   | (with_reducible exact ih4 _ _ _ _ _ _)
   | (with_reducible exact impl_Merge.mono _ _ _)
   | (with_reducible exact impl_Newer.mono _ _ _)
   | (with_reducible exact impl_Scope.mono _ _ _)
   | (with_reducible exact impl_StoreOk.mono _ _)
   | (with_reducible exact laws_newest.mono _ _ _ _ _ _ _ _ _ _)
   | (with_reducible exact laws_sameStore.mono _ _ _)
   | (with_reducible exact spec_DrawStores.mono _ _)
   | (with_reducible exact LeO.refl _)
   | (with_reducible exact LeO.none _)
   | (with_reducible refine LeO.ite ?_ ?_)
   | (with_reducible refine LeO.bind ?_ (fun _ => ?_))
   | exact ih0 _ _ _ _
   | exact ih1 _ _ _ _
   | exact ih2 _ _ _ _ _
   | exact ih3 _ _ _ _
   | exact ih4 _ _ _ _ _ _
   | exact impl_Merge.mono _ _ _
   | exact impl_Newer.mono _ _ _
   | exact impl_Scope.mono _ _ _
   | exact impl_StoreOk.mono _ _
   | exact laws_newest.mono _ _ _ _ _ _ _ _ _ _
   | exact laws_sameStore.mono _ _ _
   | exact spec_DrawStores.mono _ _
   | exact LeO.none _
   | refine LeO.ite ?_ ?_
   | refine LeO.bind ?_ (fun _ => ?_)
  ·intro y0 y1 y2 y3
   unfold laws_FnMerges.l0
   repeat' first
   | (with_reducible exact ih0 _ _ _ _)
   | (with_reducible exact ih1 _ _ _ _)
   | (with_reducible exact ih2 _ _ _ _ _)
   | (with_reducible exact ih3 _ _ _ _)
   | (with_reducible exact ih4 _ _ _ _ _ _)
   | (with_reducible exact impl_Merge.mono _ _ _)
   | (with_reducible exact impl_Newer.mono _ _ _)
   | (with_reducible exact impl_Scope.mono _ _ _)
   | (with_reducible exact impl_StoreOk.mono _ _)
   | (with_reducible exact laws_newest.mono _ _ _ _ _ _ _ _ _ _)
   | (with_reducible exact laws_sameStore.mono _ _ _)
   | (with_reducible exact spec_DrawStores.mono _ _)
   | (with_reducible exact LeO.refl _)
   | (with_reducible exact LeO.none _)
   | (with_reducible refine LeO.ite ?_ ?_)
   | (with_reducible refine LeO.bind ?_ (fun _ => ?_))
   | exact ih0 _ _ _ _
   | exact ih1 _ _ _ _
   | exact ih2 _ _ _ _ _
   | exact ih3 _ _ _ _
   | exact ih4 _ _ _ _ _ _
   | exact impl_Merge.mono _ _ _
   | exact impl_Newer.mono _ _ _
   | exact impl_Scope.mono _ _ _
   | exact impl_StoreOk.mono _ _
   | exact laws_newest.mono _ _ _ _ _ _ _ _ _ _
   | exact laws_sameStore.mono _ _ _
   | exact spec_DrawStores.mono _ _
   | exact LeO.none _
   | refine LeO.ite ?_ ?_
   | refine LeO.bind ?_ (fun _ => ?_)
  ·intro y0 y1 y2 y3 y4
   unfold laws_FnMerges.l1
   repeat' first
   | (with_reducible exact ih0 _ _ _ _)
   | (with_reducible exact ih1 _ _ _ _)
   | (with_reducible exact ih2 _ _ _ _ _)
   | (with_reducible exact ih3 _ _ _ _)
   | (with_reducible exact ih4 _ _ _ _ _ _)
   | (with_reducible exact impl_Merge.mono _ _ _)
   | (with_reducible exact impl_Newer.mono _ _ _)
   | (with_reducible exact impl_Scope.mono _ _ _)
   | (with_reducible exact impl_StoreOk.mono _ _)
   | (with_reducible exact laws_newest.mono _ _ _ _ _ _ _ _ _ _)
   | (with_reducible exact laws_sameStore.mono _ _ _)
   | (with_reducible exact spec_DrawStores.mono _ _)
   | (with_reducible exact LeO.refl _)
   | (with_reducible exact LeO.none _)
   | (with_reducible refine LeO.ite ?_ ?_)
   | (with_reducible refine LeO.bind ?_ (fun _ => ?_))
   | exact ih0 _ _ _ _
   | exact ih1 _ _ _ _
   | exact ih2 _ _ _ _ _
   | exact ih3 _ _ _ _
   | exact ih4 _ _ _ _ _ _
   | exact impl_Merge.mono _ _ _
   | exact impl_Newer.mono _ _ _
   | exact impl_Scope.mono _ _ _
   | exact impl_StoreOk.mono _ _
   | exact laws_newest.mono _ _ _ _ _ _ _ _ _ _
   | exact laws_sameStore.mono _ _ _
   | exact spec_DrawStores.mono _ _
   | exact LeO.none _
   | refine LeO.ite ?_ ?_
   | refine LeO.bind ?_ (fun _ => ?_)
  ·intro y0 y1 y2 y3
   unfold laws_FnMerges.l2
   repeat' first
   | (with_reducible exact ih0 _ _ _ _)
   | (with_reducible exact ih1 _ _ _ _)
   | (with_reducible exact ih2 _ _ _ _ _)
   | (with_reducible exact ih3 _ _ _ _)
   | (with_reducible exact ih4 _ _ _ _ _ _)
   | (with_reducible exact impl_Merge.mono _ _ _)
   | (with_reducible exact impl_Newer.mono _ _ _)
   | (with_reducible exact impl_Scope.mono _ _ _)
   | (with_reducible exact impl_StoreOk.mono _ _)
   | (with_reducible exact laws_newest.mono _ _ _ _ _ _ _ _ _ _)
   | (with_reducible exact laws_sameStore.mono _ _ _)
   | (with_reducible exact spec_DrawStores.mono _ _)
   | (with_reducible exact LeO.refl _)
   | (with_reducible exact LeO.none _)
   | (with_reducible refine LeO.ite ?_ ?_)
   | (with_reducible refine LeO.bind ?_ (fun _ => ?_))
   | exact ih0 _ _ _ _
   | exact ih1 _ _ _ _
   | exact ih2 _ _ _ _ _
   | exact ih3 _ _ _ _
   | exact ih4 _ _ _ _ _ _
   | exact impl_Merge.mono _ _ _
   | exact impl_Newer.mono _ _ _
   | exact impl_Scope.mono _ _ _
   | exact impl_StoreOk.mono _ _
   | exact laws_newest.mono _ _ _ _ _ _ _ _ _ _
   | exact laws_sameStore.mono _ _ _
   | exact spec_DrawStores.mono _ _
   | exact LeO.none _
   | refine LeO.ite ?_ ?_
   | refine LeO.bind ?_ (fun _ => ?_)
  ·intro y0 y1 y2 y3 y4 y5
   unfold laws_FnMerges.l3
   repeat' first
   | (with_reducible exact ih0 _ _ _ _)
   | (with_reducible exact ih1 _ _ _ _)
   | (with_reducible exact ih2 _ _ _ _ _)
   | (with_reducible exact ih3 _ _ _ _)
   | (with_reducible exact ih4 _ _ _ _ _ _)
   | (with_reducible exact impl_Merge.mono _ _ _)
   | (with_reducible exact impl_Newer.mono _ _ _)
   | (with_reducible exact impl_Scope.mono _ _ _)
   | (with_reducible exact impl_StoreOk.mono _ _)
   | (with_reducible exact laws_newest.mono _ _ _ _ _ _ _ _ _ _)
   | (with_reducible exact laws_sameStore.mono _ _ _)
   | (with_reducible exact spec_DrawStores.mono _ _)
   | (with_reducible exact LeO.refl _)
   | (with_reducible exact LeO.none _)
   | (with_reducible refine LeO.ite ?_ ?_)
   | (with_reducible refine LeO.bind ?_ (fun _ => ?_))
   | exact ih0 _ _ _ _
   | exact ih1 _ _ _ _
   | exact ih2 _ _ _ _ _
   | exact ih3 _ _ _ _
   | exact ih4 _ _ _ _ _ _
   | exact impl_Merge.mono _ _ _
   | exact impl_Newer.mono _ _ _
   | exact impl_Scope.mono _ _ _
   | exact impl_StoreOk.mono _ _
   | exact laws_newest.mono _ _ _ _ _ _ _ _ _ _
   | exact laws_sameStore.mono _ _ _
   | exact spec_DrawStores.mono _ _
   | exact LeO.none _
   | refine LeO.ite ?_ ?_
   | refine LeO.bind ?_ (fun _ => ?_)
theorem laws_FnMerges.mono : ∀ a0 k, LeO (laws_FnMerges.f k a0) (laws_FnMerges.f (k + 1) a0) := by
 intro a0 k
 obtain ⟨ih0, ih1, ih2, ih3, ih4⟩ := laws_FnMerges.mono_l k
 unfold laws_FnMerges.f
 repeat' first
   | (with_reducible exact ih0 _ _ _ _)
   | (with_reducible exact ih1 _ _ _ _)
   | (with_reducible exact ih2 _ _ _ _ _)
   | (with_reducible exact ih3 _ _ _ _)
   | (with_reducible exact ih4 _ _ _ _ _ _)
   | (with_reducible exact impl_Merge.mono _ _ _)
   | (with_reducible exact impl_Newer.mono _ _ _)
   | (with_reducible exact impl_Scope.mono _ _ _)
   | (with_reducible exact impl_StoreOk.mono _ _)
   | (with_reducible exact laws_newest.mono _ _ _ _ _ _ _ _ _ _)
   | (with_reducible exact laws_sameStore.mono _ _ _)
   | (with_reducible exact spec_DrawStores.mono _ _)
   | (with_reducible exact LeO.refl _)
   | (with_reducible exact LeO.none _)
   | (with_reducible refine LeO.ite ?_ ?_)
   | (with_reducible refine LeO.bind ?_ (fun _ => ?_))
   | exact ih0 _ _ _ _
   | exact ih1 _ _ _ _
   | exact ih2 _ _ _ _ _
   | exact ih3 _ _ _ _
   | exact ih4 _ _ _ _ _ _
   | exact impl_Merge.mono _ _ _
   | exact impl_Newer.mono _ _ _
   | exact impl_Scope.mono _ _ _
   | exact impl_StoreOk.mono _ _
   | exact laws_newest.mono _ _ _ _ _ _ _ _ _ _
   | exact laws_sameStore.mono _ _ _
   | exact spec_DrawStores.mono _ _
   | exact LeO.none _
   | refine LeO.ite ?_ ?_
   | refine LeO.bind ?_ (fun _ => ?_)
def laws_FnMerges.T20 : Bool × List (List Nat × List Nat) := (true, [([], []), ([], []), ([], []), ([1, 2], [1, 2]), ([3], [3]), ([0, 4], [0, 4]), ([], []), ([], []), ([6, 7], [6, 7]), ([8], [8]), ([9], [9]), ([5, 10], [5, 10])])
def laws_FnMerges.B20 : List Nat := [0, 0, 0, 6, 14, 31, 0, 0, 192, 448, 960, 2047]
theorem laws_FnMerges.tab20 : rtab .any (opsOf Try.f11 20) = laws_FnMerges.T20 := by kernel_rfl
theorem laws_FnMerges.bits20 : waitsOk laws_FnMerges.T20.2 laws_FnMerges.B20 = true := by kernel_rfl
set_option maxHeartbeats 8000000 in
set_option maxRecDepth 100000 in
theorem laws_FnMerges.calls (k : Nat) (A0 : Option Addr) (c0 : Nat) (l0 : List Int) (r : Bool) (w : World) (hr0 : Kd.C (Kd.int .u8) w A0 l0.length l0) (hc0 : l0.length ≤ c0) (hr_ : r = true) (h : laws_FnMerges.f k l0 = some r) :
  Calls Try.prog 11 #[.slice A0 l0.length c0] w fun e w' => e = .returned (.bool r) ∧ Below w.heap.size w w' := by
 have hu61 := Try.underlying61
 have HR0 := Aside0.mk hr0
 have HC0 := Aside0.mk hc0
 clear hr0 hc0
 have HB := Aside0.mk (Below.refl w.heap.size w)
 have H : ((laws_big.f l0).bind fun t1450 => (if t1450 = true then (some true) else ((spec_DrawStores.f k l0).bind fun bt1451 => ((impl_Merge.f k bt1451.1 bt1451.2).bind fun t1457 => ((impl_StoreOk.f k t1457).bind fun t1460 => (if t1460 = true then ((impl_Newer.f k bt1451.1 t1457).bind fun t1461 => (if (t1461.length : Int) = 0 then ((impl_Newer.f k bt1451.2 t1457).bind fun t1464 => (laws_FnMerges.j0 k bt1451.1 bt1451.2 t1457 ((t1464.length : Int) != 0))) else (laws_FnMerges.j0 k bt1451.1 bt1451.2 t1457 true))) else (laws_FnMerges.j0 k bt1451.1 bt1451.2 t1457 true))))))) = some r := h
 clear h
 replace H := Option.bind_eq_some_iff.mp H
 obtain ⟨t1450, A20, H⟩ := H
 replace H : (if t1450 = true then (some true) else ((spec_DrawStores.f k l0).bind fun bt1451 => ((impl_Merge.f k bt1451.1 bt1451.2).bind fun t1457 => ((impl_StoreOk.f k t1457).bind fun t1460 => (if t1460 = true then ((impl_Newer.f k bt1451.1 t1457).bind fun t1461 => (if (t1461.length : Int) = 0 then ((impl_Newer.f k bt1451.2 t1457).bind fun t1464 => (laws_FnMerges.j0 k bt1451.1 bt1451.2 t1457 ((t1464.length : Int) != 0))) else (laws_FnMerges.j0 k bt1451.1 bt1451.2 t1457 true))) else (laws_FnMerges.j0 k bt1451.1 bt1451.2 t1457 true)))))) = some r := H
 have A2 := Aside0.mk A20
 clear A20
 have HC3 := Aside0.mk H
 clear H
 go_enter Try.func11, Try.ntmps11
 go_upto_if 16 with (first | ((with_reducible refine gate_callee (f := 47) rfl ?_); refine goesL_ (some 16) rfl rfl Try.func47 (by kernel_rfl) rfl #[.slice A0 l0.length c0] rfl mp_q ?_; (with_reducible refine (laws_big.calls _ _ l0 t1450 _ ?side1 ?side2 A2.out).mono ?_); (case side1 => repeat (first | exact HR0.out | (with_reducible refine Kd.C_alloc ?_ _) | (with_reducible refine Kd.C_drewN ?_ _) | (with_reducible refine Kd.C_drew ?_))); (case side2 => exact HC0.out); rintro e w' ⟨rfl, ⟨nd, rfl⟩⟩; refine ⟨_, rfl, ?_⟩))
 have H := HC3.out
 clear HC3
 by_cases c4 : t1450 = true
 ·subst c4
  have H1 : (some true) = some r := by rw [if_pos rfl] at H; exact H
  clear H
  have H := H1
  clear H1
  obtain rfl := Option.some.inj H
  go_wp2
  go_ret
  exact ⟨er_q, bw_q HB⟩
 ·replace c4 := Bool.eq_false_iff.mpr c4
  subst c4
  have H1 : ((spec_DrawStores.f k l0).bind fun bt1451 => ((impl_Merge.f k bt1451.1 bt1451.2).bind fun t1457 => ((impl_StoreOk.f k t1457).bind fun t1460 => (if t1460 = true then ((impl_Newer.f k bt1451.1 t1457).bind fun t1461 => (if (t1461.length : Int) = 0 then ((impl_Newer.f k bt1451.2 t1457).bind fun t1464 => (laws_FnMerges.j0 k bt1451.1 bt1451.2 t1457 ((t1464.length : Int) != 0))) else (laws_FnMerges.j0 k bt1451.1 bt1451.2 t1457 true))) else (laws_FnMerges.j0 k bt1451.1 bt1451.2 t1457 true))))) = some r := by rw [if_neg (show ¬ (false = true) by decide)] at H; exact H
  clear H
  have H := H1
  clear H1
  replace H := Option.bind_eq_some_iff.mp H
  obtain ⟨⟨t1451, t1454⟩, A50, H⟩ := H
  replace H : ((impl_Merge.f k t1451 t1454).bind fun t1457 => ((impl_StoreOk.f k t1457).bind fun t1460 => (if t1460 = true then ((impl_Newer.f k t1451 t1457).bind fun t1461 => (if (t1461.length : Int) = 0 then ((impl_Newer.f k t1454 t1457).bind fun t1464 => (laws_FnMerges.j0 k t1451 t1454 t1457 ((t1464.length : Int) != 0))) else (laws_FnMerges.j0 k t1451 t1454 t1457 true))) else (laws_FnMerges.j0 k t1451 t1454 t1457 true)))) = some r := H
  have A5 := Aside0.mk A50
  clear A50
  replace H := Option.bind_eq_some_iff.mp H
  obtain ⟨t1457, A60, H⟩ := H
  replace H : ((impl_StoreOk.f k t1457).bind fun t1460 => (if t1460 = true then ((impl_Newer.f k t1451 t1457).bind fun t1461 => (if (t1461.length : Int) = 0 then ((impl_Newer.f k t1454 t1457).bind fun t1464 => (laws_FnMerges.j0 k t1451 t1454 t1457 ((t1464.length : Int) != 0))) else (laws_FnMerges.j0 k t1451 t1454 t1457 true))) else (laws_FnMerges.j0 k t1451 t1454 t1457 true))) = some r := H
  have A6 := Aside0.mk A60
  clear A60
  have HC7 := Aside0.mk H
  clear H
  go_upto_region 5 with (first | ((with_reducible refine gate_callee (f := 54) rfl ?_); refine goesL_ (some 19) rfl rfl Try.func54 (by kernel_rfl) rfl #[.slice A0 l0.length c0] rfl mp_q ?_; (with_reducible refine (spec_DrawStores.calls k _ _ l0 t1451 t1454 _ ?side1 ?side2 A5.out).mono ?_); (case side1 => exact cs_q (Kd.C_below HR0.out HB.out)); (case side2 => exact HC0.out); rintro e w8 ⟨v1452, v1455, rfl, ho0, ho1, hb⟩; refine ⟨_, rfl, ?_⟩; have HO1453 := Aside0.mk (Kd.V_lower (Kd.V_mono (ok' := fun k_ => True) ho0 (fun k_ hk_ => trivial)) (below_size (bw_q HB))); have HO1456 := Aside0.mk (Kd.V_lower (Kd.V_mono (ok' := fun k_ => True) ho1 (fun k_ hk_ => trivial)) (below_size (bw_q HB))); replace HB := Aside0.mk (below_step (bw_q HB) hb); (try clear hb); (try clear hb2); (try clear hk); (try clear hi); (try clear ho0); (try clear ho1); obtain ⟨Ao9, co9, eo9⟩ := Kd.V_slice HO1453.out; subst eo9; obtain ⟨Ao10, co10, eo10⟩ := Kd.V_slice HO1456.out; subst eo10) | ((with_reducible refine gate_callee (f := 44) rfl ?_); refine goesL_ (some 24) rfl rfl Try.func44 (by kernel_rfl) rfl #[.slice Ao9 t1451.length co9, .slice Ao10 t1454.length co10] rfl mp_q ?_; (with_reducible refine (impl_Merge.calls k _ _ t1451 _ _ t1454 t1457 _ ?side1 ?side2 ?side3 ?side4 A6.out).mono ?_); (case side1 => repeat (first | exact (Kd.V_reads' HO1453.out).2.2 | (with_reducible refine Kd.C_alloc ?_ _) | (with_reducible refine Kd.C_drewN ?_ _) | (with_reducible refine Kd.C_drew ?_))); (case side2 => exact (Kd.V_reads' HO1453.out).2.1); (case side3 => repeat (first | exact (Kd.V_reads' HO1456.out).2.2 | (with_reducible refine Kd.C_alloc ?_ _) | (with_reducible refine Kd.C_drewN ?_ _) | (with_reducible refine Kd.C_drew ?_))); (case side4 => exact (Kd.V_reads' HO1456.out).2.1); rintro e w11 ⟨v1458, rfl, ho0, hb⟩; refine ⟨_, rfl, ?_⟩; replace HO1453 := Aside0.mk (Kd.V_elder' (kV_q HO1453) (Kd.S_base ho0) hb); replace HO1456 := Aside0.mk (Kd.V_elder' (kV_q HO1456) (Kd.S_base ho0) hb); have HO1459 := Aside0.mk (Kd.S_lower ho0 (below_size (bw_q HB))); replace HB := Aside0.mk (below_step (bw_q HB) hb); (try clear hb); (try clear hb2); (try clear hk); (try clear hi); (try clear ho0)))
  (try simp only [Act.put, List.setIfInBounds_toArray, List.set_cons_zero, List.set_cons_succ])
  go_cut [41] (fun v41 wc => ∃ (kq : Nat) (x41_6 : Bool), v41 = .bool x41_6 ∧ Aside0 (laws_FnMerges.j0 kq t1451 t1454 t1457 x41_6 = some r) ∧ Aside0 (kq ≤ k) ∧ Aside0 (Kd.V k61 61 wc w.heap.size (fun k_ => some k_ ≠ (v1458 : Value).ownBlock) (.slice Ao9 t1451.length co9) t1451) ∧ Aside0 (Kd.V k61 61 wc w.heap.size (fun k_ => some k_ ≠ (v1458 : Value).ownBlock) (.slice Ao10 t1454.length co10) t1454) ∧ Aside0 (Kd.S k61 61 wc w.heap.size (fun _ => True) v1458 t1457) ∧ Aside0 (Below w.heap.size w wc))
  case first =>
   have H := HC7.out
   clear HC7
   replace H := Option.bind_eq_some_iff.mp H
   obtain ⟨t1460, A120, H⟩ := H
   replace H : (if t1460 = true then ((impl_Newer.f k t1451 t1457).bind fun t1461 => (if (t1461.length : Int) = 0 then ((impl_Newer.f k t1454 t1457).bind fun t1464 => (laws_FnMerges.j0 k t1451 t1454 t1457 ((t1464.length : Int) != 0))) else (laws_FnMerges.j0 k t1451 t1454 t1457 true))) else (laws_FnMerges.j0 k t1451 t1454 t1457 true)) = some r := H
   have A12 := Aside0.mk A120
   clear A120
   by_cases c13 : t1460 = true
   ·subst c13
    have H1 : ((impl_Newer.f k t1451 t1457).bind fun t1461 => (if (t1461.length : Int) = 0 then ((impl_Newer.f k t1454 t1457).bind fun t1464 => (laws_FnMerges.j0 k t1451 t1454 t1457 ((t1464.length : Int) != 0))) else (laws_FnMerges.j0 k t1451 t1454 t1457 true))) = some r := by rw [if_pos rfl] at H; exact H
    clear H
    have H := H1
    clear H1
    replace H := Option.bind_eq_some_iff.mp H
    obtain ⟨t1461, A140, H⟩ := H
    replace H : (if (t1461.length : Int) = 0 then ((impl_Newer.f k t1454 t1457).bind fun t1464 => (laws_FnMerges.j0 k t1451 t1454 t1457 ((t1464.length : Int) != 0))) else (laws_FnMerges.j0 k t1451 t1454 t1457 true)) = some r := H
    have A14 := Aside0.mk A140
    clear A140
    by_cases c15 : (t1461.length : Int) = 0
    ·rw [if_pos c15] at H
     have c15b0 : ((t1461.length : Int) == 0) = true := beq_iff_eq.mpr c15
     have c15b1 : ((t1461.length : Int) != 0) = false := bne_eq_false_iff_eq.mpr c15
     clear c15
     (first | rw [c15b0] | rw [c15b1] | (simp only [i64_w, i32_w]; first | rw [c15b0] | rw [c15b1]) | skip)
     replace H := Option.bind_eq_some_iff.mp H
     obtain ⟨t1464, A160, H⟩ := H
     replace H : (laws_FnMerges.j0 k t1451 t1454 t1457 ((t1464.length : Int) != 0)) = some r := H
     have A16 := Aside0.mk A160
     clear A160
     have H' := Aside0.mk H
     clear H
     obtain ⟨Ao17, co17, eo17⟩ := Kd.S_slice HO1459.out
     subst eo17
     go_wp2_with (first | ((with_reducible refine gate_callee (f := 50) rfl ?_); refine goesL_ (some 26) rfl rfl Try.func50 (by kernel_rfl) rfl #[.slice Ao17 t1457.length co17] rfl mp_q ?_; (with_reducible refine (impl_StoreOk.calls k _ _ t1457 true _ ?side1 ?side2 A12.out).mono ?_); (case side1 => repeat (first | exact (Kd.S_reads' HO1459.out).2.2 | (with_reducible refine Kd.C_alloc ?_ _) | (with_reducible refine Kd.C_drewN ?_ _) | (with_reducible refine Kd.C_drew ?_))); (case side2 => exact (Kd.S_reads' HO1459.out).2.1); rintro e w18 ⟨rfl, hb⟩; refine ⟨_, rfl, ?_⟩; replace HO1453 := Aside0.mk (Kd.V_below (kV_q HO1453) hb); replace HO1456 := Aside0.mk (Kd.V_below (kV_q HO1456) hb); replace HO1459 := Aside0.mk (Kd.S_below (kS_q HO1459) hb); replace HB := Aside0.mk (below_step (bw_q HB) hb); (try clear hb); (try clear hb2); (try clear hk); (try clear hi)) | (go_at_call 55; (with_reducible refine (impl_Newer.calls k _ _ t1451 _ _ t1457 t1461 _ ?side1 ?side2 ?side3 ?side4 A14.out).mono ?_); (case side1 => repeat (first | exact (Kd.V_reads' HO1453.out).2.2 | (with_reducible refine Kd.C_alloc ?_ _) | (with_reducible refine Kd.C_drewN ?_ _) | (with_reducible refine Kd.C_drew ?_))); (case side2 => exact (Kd.V_reads' HO1453.out).2.1); (case side3 => repeat (first | exact (Kd.S_reads' HO1459.out).2.2 | (with_reducible refine Kd.C_alloc ?_ _) | (with_reducible refine Kd.C_drewN ?_ _) | (with_reducible refine Kd.C_drew ?_))); (case side4 => exact (Kd.S_reads' HO1459.out).2.1); rintro e w19 ⟨v1462, rfl, ho0, hb⟩; replace HO1453 := Aside0.mk (Kd.V_elder' (kV_q HO1453) (Kd.S_base ho0) hb); replace HO1456 := Aside0.mk (Kd.V_elder' (kV_q HO1456) (Kd.S_base ho0) hb); have HO1463 := Aside0.mk (Kd.S_lower (Kd.S_new' ho0 (Kd.S_lt (kS_q HO1459))) (below_size (bw_q HB))); replace HO1459 := Aside0.mk (Kd.S_elder' (kS_q HO1459) (Kd.S_base ho0) hb); replace HB := Aside0.mk (below_step (bw_q HB) hb); (try clear hb); (try clear hb2); (try clear hk); (try clear hi); (try clear ho0); obtain ⟨Ao20, co20, eo20⟩ := Kd.S_slice HO1463.out; subst eo20) | (go_at_call 55; (with_reducible refine (impl_Newer.calls k _ _ t1454 _ _ t1457 t1464 _ ?side1 ?side2 ?side3 ?side4 A16.out).mono ?_); (case side1 => repeat (first | exact (Kd.V_reads' HO1456.out).2.2 | (with_reducible refine Kd.C_alloc ?_ _) | (with_reducible refine Kd.C_drewN ?_ _) | (with_reducible refine Kd.C_drew ?_))); (case side2 => exact (Kd.V_reads' HO1456.out).2.1); (case side3 => repeat (first | exact (Kd.S_reads' HO1459.out).2.2 | (with_reducible refine Kd.C_alloc ?_ _) | (with_reducible refine Kd.C_drewN ?_ _) | (with_reducible refine Kd.C_drew ?_))); (case side4 => exact (Kd.S_reads' HO1459.out).2.1); rintro e w21 ⟨v1465, rfl, ho0, hb⟩; replace HO1453 := Aside0.mk (Kd.V_elder' (kV_q HO1453) (Kd.S_base ho0) hb); replace HO1456 := Aside0.mk (Kd.V_elder' (kV_q HO1456) (Kd.S_base ho0) hb); have HO1466 := Aside0.mk (Kd.S_lower (Kd.S_new' (Kd.S_new' ho0 (Kd.S_lt (kS_q HO1459))) (Kd.S_lt (kS_q HO1463))) (below_size (bw_q HB))); replace HO1459 := Aside0.mk (Kd.S_elder' (kS_q HO1459) (Kd.S_base ho0) hb); replace HO1463 := Aside0.mk (Kd.S_elder' (kS_q HO1463) (Kd.S_base ho0) hb); replace HB := Aside0.mk (below_step (bw_q HB) hb); (try clear hb); (try clear hb2); (try clear hk); (try clear hi); (try clear ho0); obtain ⟨Ao22, co22, eo22⟩ := Kd.S_slice HO1466.out; subst eo22))
     go_meet
     case rel => exact ⟨_, (((t1464.length : Int) != 0)), (by first | rfl | (simp; done) | (simp [*]; done)), H', ⟨by first | omega | exact Nat.le_refl _⟩, ⟨by (with_reducible repeat (first | apply Kd.V_alloc | apply Kd.V_drewN | apply Kd.V_drew)); exact Kd.V_mono HO1453.out (fun _ hk => hk.1.1.2)⟩, ⟨by (with_reducible repeat (first | apply Kd.V_alloc | apply Kd.V_drewN | apply Kd.V_drew)); exact Kd.V_mono HO1456.out (fun _ hk => hk.1.1.2)⟩, ⟨by (with_reducible repeat (first | apply Kd.S_alloc | apply Kd.S_drewN | apply Kd.S_drew)); exact Kd.S_mono HO1459.out (fun _ hk => trivial)⟩, ⟨bw_q HB⟩⟩
    ·rw [if_neg c15] at H
     have c15b0 : ((t1461.length : Int) == 0) = false := beq_eq_false_iff_ne.mpr c15
     have c15b1 : ((t1461.length : Int) != 0) = true := bne_iff_ne.mpr c15
     have c15b2 : ¬ (t1461 = []) := fun h_ => c15 (by rw [h_]; rfl)
     (first | rw [c15b0] | rw [c15b1] | (simp only [i64_w, i32_w]; first | rw [c15b0] | rw [c15b1]) | skip)
     have H' := Aside0.mk H
     clear H
     obtain ⟨Ao23, co23, eo23⟩ := Kd.S_slice HO1459.out
     subst eo23
     go_wp2_with (first | ((with_reducible refine gate_callee (f := 50) rfl ?_); refine goesL_ (some 26) rfl rfl Try.func50 (by kernel_rfl) rfl #[.slice Ao23 t1457.length co23] rfl mp_q ?_; (with_reducible refine (impl_StoreOk.calls k _ _ t1457 true _ ?side1 ?side2 A12.out).mono ?_); (case side1 => repeat (first | exact (Kd.S_reads' HO1459.out).2.2 | (with_reducible refine Kd.C_alloc ?_ _) | (with_reducible refine Kd.C_drewN ?_ _) | (with_reducible refine Kd.C_drew ?_))); (case side2 => exact (Kd.S_reads' HO1459.out).2.1); rintro e w24 ⟨rfl, hb⟩; refine ⟨_, rfl, ?_⟩; replace HO1453 := Aside0.mk (Kd.V_below (kV_q HO1453) hb); replace HO1456 := Aside0.mk (Kd.V_below (kV_q HO1456) hb); replace HO1459 := Aside0.mk (Kd.S_below (kS_q HO1459) hb); replace HB := Aside0.mk (below_step (bw_q HB) hb); (try clear hb); (try clear hb2); (try clear hk); (try clear hi)) | (go_at_call 55; (with_reducible refine (impl_Newer.calls k _ _ t1451 _ _ t1457 t1461 _ ?side1 ?side2 ?side3 ?side4 A14.out).mono ?_); (case side1 => repeat (first | exact (Kd.V_reads' HO1453.out).2.2 | (with_reducible refine Kd.C_alloc ?_ _) | (with_reducible refine Kd.C_drewN ?_ _) | (with_reducible refine Kd.C_drew ?_))); (case side2 => exact (Kd.V_reads' HO1453.out).2.1); (case side3 => repeat (first | exact (Kd.S_reads' HO1459.out).2.2 | (with_reducible refine Kd.C_alloc ?_ _) | (with_reducible refine Kd.C_drewN ?_ _) | (with_reducible refine Kd.C_drew ?_))); (case side4 => exact (Kd.S_reads' HO1459.out).2.1); rintro e w25 ⟨v1462, rfl, ho0, hb⟩; replace HO1453 := Aside0.mk (Kd.V_elder' (kV_q HO1453) (Kd.S_base ho0) hb); replace HO1456 := Aside0.mk (Kd.V_elder' (kV_q HO1456) (Kd.S_base ho0) hb); have HO1463 := Aside0.mk (Kd.S_lower (Kd.S_new' ho0 (Kd.S_lt (kS_q HO1459))) (below_size (bw_q HB))); replace HO1459 := Aside0.mk (Kd.S_elder' (kS_q HO1459) (Kd.S_base ho0) hb); replace HB := Aside0.mk (below_step (bw_q HB) hb); (try clear hb); (try clear hb2); (try clear hk); (try clear hi); (try clear ho0); obtain ⟨Ao26, co26, eo26⟩ := Kd.S_slice HO1463.out; subst eo26))
     go_meet
     case rel => exact ⟨_, (true), (by first | rfl | (simp; done) | (simp [*]; done)), H', ⟨by first | omega | exact Nat.le_refl _⟩, ⟨by (with_reducible repeat (first | apply Kd.V_alloc | apply Kd.V_drewN | apply Kd.V_drew)); exact Kd.V_mono HO1453.out (fun _ hk => hk.1.2)⟩, ⟨by (with_reducible repeat (first | apply Kd.V_alloc | apply Kd.V_drewN | apply Kd.V_drew)); exact Kd.V_mono HO1456.out (fun _ hk => hk.1.2)⟩, ⟨by (with_reducible repeat (first | apply Kd.S_alloc | apply Kd.S_drewN | apply Kd.S_drew)); exact Kd.S_mono HO1459.out (fun _ hk => trivial)⟩, ⟨bw_q HB⟩⟩
   ·replace c13 := Bool.eq_false_iff.mpr c13
    subst c13
    have H1 : (laws_FnMerges.j0 k t1451 t1454 t1457 true) = some r := by rw [if_neg (show ¬ (false = true) by decide)] at H; exact H
    clear H
    have H := H1
    clear H1
    have H' := Aside0.mk H
    clear H
    obtain ⟨Ao27, co27, eo27⟩ := Kd.S_slice HO1459.out
    subst eo27
    go_wp2_with (first | ((with_reducible refine gate_callee (f := 50) rfl ?_); refine goesL_ (some 26) rfl rfl Try.func50 (by kernel_rfl) rfl #[.slice Ao27 t1457.length co27] rfl mp_q ?_; (with_reducible refine (impl_StoreOk.calls k _ _ t1457 false _ ?side1 ?side2 A12.out).mono ?_); (case side1 => repeat (first | exact (Kd.S_reads' HO1459.out).2.2 | (with_reducible refine Kd.C_alloc ?_ _) | (with_reducible refine Kd.C_drewN ?_ _) | (with_reducible refine Kd.C_drew ?_))); (case side2 => exact (Kd.S_reads' HO1459.out).2.1); rintro e w28 ⟨rfl, hb⟩; refine ⟨_, rfl, ?_⟩; replace HO1453 := Aside0.mk (Kd.V_below (kV_q HO1453) hb); replace HO1456 := Aside0.mk (Kd.V_below (kV_q HO1456) hb); replace HO1459 := Aside0.mk (Kd.S_below (kS_q HO1459) hb); replace HB := Aside0.mk (below_step (bw_q HB) hb); (try clear hb); (try clear hb2); (try clear hk); (try clear hi)))
    go_meet
    case rel => exact ⟨_, (true), (by first | rfl | (simp; done) | (simp [*]; done)), H', ⟨by first | omega | exact Nat.le_refl _⟩, ⟨by (with_reducible repeat (first | apply Kd.V_alloc | apply Kd.V_drewN | apply Kd.V_drew)); exact Kd.V_mono HO1453.out (fun _ hk => hk.2)⟩, ⟨by (with_reducible repeat (first | apply Kd.V_alloc | apply Kd.V_drewN | apply Kd.V_drew)); exact Kd.V_mono HO1456.out (fun _ hk => hk.2)⟩, ⟨by (with_reducible repeat (first | apply Kd.S_alloc | apply Kd.S_drewN | apply Kd.S_drew)); exact HO1459.out⟩, ⟨bw_q HB⟩⟩
  case rest =>
   clear HC7
   try clear c1
   try clear p2
   try clear c4
   try clear c5
   try clear c11
   try clear c13
   try clear c15
   try clear c15b0
   try clear c15b1
   try clear c15b2
   obtain ⟨kq, x41_6, rfl, HA, HJ6, HO_3, HO_4, HO_5, HB⟩ := hcut
   cases kq with
   | zero => exact absurd HA.out (by simp [laws_FnMerges.j0])
   | succ kj6 =>
    have H := HA.out
    clear HA
    simp only [laws_FnMerges.j0] at H
    by_cases c29 : x41_6 = true
    ·subst c29
     have H1 : (some false) = some r := by rw [if_pos rfl] at H; exact H
     clear H
     have H := H1
     clear H1
     exact absurd (Option.some.inj H) (by rw [hr_]; decide)
    ·replace c29 := Bool.eq_false_iff.mpr c29
     subst c29
     have H1 : (laws_FnMerges.l0 kj6 t1451 t1454 t1457 0) = some r := by rw [if_neg (show ¬ (false = true) by decide)] at H; exact H
     clear H
     have H := H1
     clear H1
     have H' := Aside0.mk H
     clear H
     go_wp2
     go_loopg [6] kj6 (fun kq v6 w' => ∃ (x6_2 : Int), v6 = .int .i64 x6_2 ∧ Aside0 (laws_FnMerges.l0 kq t1451 t1454 t1457 x6_2 = some r) ∧ Aside0 (kq ≤ kj6) ∧ Aside0 (Kd.V k61 61 w' w.heap.size (fun k_ => some k_ ≠ (v1458 : Value).ownBlock) (.slice Ao9 t1451.length co9) t1451) ∧ Aside0 (Kd.V k61 61 w' w.heap.size (fun k_ => some k_ ≠ (v1458 : Value).ownBlock) (.slice Ao10 t1454.length co10) t1454) ∧ Aside0 (Kd.S k61 61 w' w.heap.size (fun _ => True) v1458 t1457) ∧ Aside0 (Below w.heap.size w w'))
     case atStart => exact ⟨(0), (by first | rfl | (simp; done) | (simp [*]; done)), H', ⟨Nat.le_refl _⟩, ⟨by (with_reducible repeat (first | apply Kd.V_alloc | apply Kd.V_drewN | apply Kd.V_drew)); exact HO_3.out⟩, ⟨by (with_reducible repeat (first | apply Kd.V_alloc | apply Kd.V_drewN | apply Kd.V_drew)); exact HO_4.out⟩, ⟨by (with_reducible repeat (first | apply Kd.S_alloc | apply Kd.S_drewN | apply Kd.S_drew)); exact HO_5.out⟩, ⟨bw_q HB⟩⟩
     case round =>
      clear H'
      try clear c1
      try clear c2
      try clear p2
      try clear c4
      try clear c5
      try clear c11
      try clear c13
      try clear c15
      try clear c15b0
      try clear c15b1
      try clear c15b2
      try clear c29
      try clear p2
      obtain ⟨x6_2, rfl, HA, HK2, HO_3, HO_4, HO_5, HB⟩ := hrel
      cases gk with
      | zero => exact absurd HA.out (by simp [laws_FnMerges.l0])
      | succ k2 =>
       have H := HA.out
       clear HA
       simp only [laws_FnMerges.l0] at H
       by_cases c30 : x6_2 < (t1457.length : Int)
       ·rw [if_pos c30] at H
        have c30b0 : decide (x6_2 < (t1457.length : Int)) = true := decide_eq_true c30
        clear c30
        by_cases c31 : 0 ≤ x6_2
        ·rw [if_pos c31] at H
         have c31b0 : decide (0 ≤ x6_2) = true := decide_eq_true c31
         clear c31
         replace H := Option.bind_eq_some_iff.mp H
         obtain ⟨t1468, A320, H⟩ := H
         replace H : ((laws_newest.f k2 t1454 ((rd_T61 t1457 x6_2).f0) ((rd_T61 t1457 x6_2).f1) ((rd_T61 t1457 x6_2).f2) ((rd_T61 t1457 x6_2).f3) ((rd_T61 t1457 x6_2).f4) ((rd_T61 t1457 x6_2).f5) ((rd_T61 t1457 x6_2).f6) ((rd_T61 t1457 x6_2).f7)).bind fun t1470 => (if t1470 > t1468 then (if ((rd_T61 t1457 x6_2).f4) = t1470 then (laws_FnMerges.l0 k2 t1451 t1454 t1457 (wrap64 (x6_2 + 1))) else (some false)) else (if ((rd_T61 t1457 x6_2).f4) = t1468 then (laws_FnMerges.l0 k2 t1451 t1454 t1457 (wrap64 (x6_2 + 1))) else (some false)))) = some r := H
         have A32 := Aside0.mk A320
         clear A320
         replace H := Option.bind_eq_some_iff.mp H
         obtain ⟨t1470, A330, H⟩ := H
         replace H : (if t1470 > t1468 then (if ((rd_T61 t1457 x6_2).f4) = t1470 then (laws_FnMerges.l0 k2 t1451 t1454 t1457 (wrap64 (x6_2 + 1))) else (some false)) else (if ((rd_T61 t1457 x6_2).f4) = t1468 then (laws_FnMerges.l0 k2 t1451 t1454 t1457 (wrap64 (x6_2 + 1))) else (some false))) = some r := H
         have A33 := Aside0.mk A330
         clear A330
         have HC34 := Aside0.mk H
         clear H
         obtain ⟨Ao35, co35, eo35⟩ := Kd.S_slice HO_5.out
         subst eo35
         have p1467 : 0 ≤ (x6_2 : Int) := of_decide_eq_true as_q
         have q1467 : x6_2 < (t1457.length : Int) := of_decide_eq_true as_q
         obtain ⟨ad1467, A1467_5, c1467_5, e1467, hx1467_0, hx1467_1, hx1467_2, hx1467_3, hx1467_4, hx1467_5, hx1467_6, hx1467_7, hl1467_5, hi1467_5⟩ := at_T61 (Kd.S_reads' HO_5.out).2.2 x6_2 p1467 q1467
         cases e1467
         obtain ⟨ce1467, hce1467, hMe1467, hcc1467⟩ := Kd.S_get HO_5.out z61 x6_2 p1467 (by first | exact q1467 | exact of_decide_eq_true as_q | (have e_ := (Kd.S_reads' HO_5.out).1; omega))
         obtain ⟨ve1467_5, rfl, ge1467_5⟩ := k61_openM hMe1467
         have hv1467_5 := hcc1467 5 _ rfl
         rw [add_field _ _ 5 (by omega)] at hv1467_5
         replace hv1467_5 := Option.some.inj (hv1467_5.symm.trans hx1467_5)
         rw [hv1467_5] at ge1467_5
         have HL1467_5 := Aside0.mk (show Kd.R k127 127 _ _ _ _ ((rd_T61 t1457 x6_2).f5) from ge1467_5)
         clear hv1467_5 ge1467_5
         clear hcc1467 hce1467
         have HR1467_5 := Aside0.mk hi1467_5
         have HC1467_5 := Aside0.mk hl1467_5
         clear hi1467_5 hl1467_5
         replace p1467 := eq_true p1467
         replace q1467 := eq_true q1467
         go_upto_if 62 with (first | ((with_reducible refine gate_callee (f := 49) rfl ?_); refine goesL_ (some 53) rfl rfl Try.func49 (by kernel_rfl) rfl #[.slice Ao9 t1451.length co9, .agg #[.int .i64 ((rd_T61 t1457 x6_2).f0), .int .i64 ((rd_T61 t1457 x6_2).f1), .int .i64 ((rd_T61 t1457 x6_2).f2), .int .i64 ((rd_T61 t1457 x6_2).f3), .int .i64 ((rd_T61 t1457 x6_2).f4), .slice A1467_5 ((rd_T61 t1457 x6_2).f5).length c1467_5, .int .i64 ((rd_T61 t1457 x6_2).f6), .bool ((rd_T61 t1457 x6_2).f7)]] rfl mp_q ?_; (with_reducible refine (laws_newest.calls k2 _ _ t1451 ((rd_T61 t1457 x6_2).f0) ((rd_T61 t1457 x6_2).f1) ((rd_T61 t1457 x6_2).f2) ((rd_T61 t1457 x6_2).f3) ((rd_T61 t1457 x6_2).f4) _ _ ((rd_T61 t1457 x6_2).f5) ((rd_T61 t1457 x6_2).f6) ((rd_T61 t1457 x6_2).f7) t1468 _ ?side1 ?side2 ?side3 ?side4 A32.out).mono ?_); (case side1 => repeat (first | exact (Kd.V_reads' HO_3.out).2.2 | (with_reducible refine Kd.C_alloc ?_ _) | (with_reducible refine Kd.C_drewN ?_ _) | (with_reducible refine Kd.C_drew ?_))); (case side2 => exact (Kd.V_reads' HO_3.out).2.1); (case side3 => repeat (first | exact (by repeat (first | (with_reducible exact HR1467_5.out) | (with_reducible refine Kd.C_alloc ?_ _) | (with_reducible refine Kd.C_drewN ?_ _) | (with_reducible refine Kd.C_drew ?_) | exact HR1467_5.out)) | (with_reducible refine Kd.C_alloc ?_ _) | (with_reducible refine Kd.C_drewN ?_ _) | (with_reducible refine Kd.C_drew ?_))); (case side4 => exact HC1467_5.out); rintro e w36 ⟨rfl, hb⟩; refine ⟨_, rfl, ?_⟩; replace HO_3 := Aside0.mk (Kd.V_below (kV_q HO_3) hb); replace HO_4 := Aside0.mk (Kd.V_below (kV_q HO_4) hb); replace HO_5 := Aside0.mk (Kd.S_below (kS_q HO_5) hb); replace HL1467_5 := Aside0.mk (Kd.R_below (kR_q HL1467_5) hb); replace HR1467_5 := Aside0.mk (Kd.C_below (by repeat (first | (with_reducible exact HR1467_5.out) | (with_reducible refine Kd.C_alloc ?_ _) | (with_reducible refine Kd.C_drewN ?_ _) | (with_reducible refine Kd.C_drew ?_) | exact HR1467_5.out)) hb); replace HB := Aside0.mk (below_step (bw_q HB) hb); (try clear hb); (try clear hb2); (try clear hk); (try clear hi); have p1469 : 0 ≤ (x6_2 : Int) := of_decide_eq_true as_q; have q1469 : x6_2 < (t1457.length : Int) := of_decide_eq_true as_q; obtain ⟨ad1469, A1469_5, c1469_5, e1469, hx1469_0, hx1469_1, hx1469_2, hx1469_3, hx1469_4, hx1469_5, hx1469_6, hx1469_7, hl1469_5, hi1469_5⟩ := at_T61 (Kd.S_reads' HO_5.out).2.2 x6_2 p1469 q1469; obtain rfl : ad1467 = ad1469 := (by injection e1469); obtain ⟨ce1469, hce1469, hMe1469, hcc1469⟩ := Kd.S_get HO_5.out z61 x6_2 p1469 (by first | exact q1469 | exact of_decide_eq_true as_q | (have e_ := (Kd.S_reads' HO_5.out).1; omega)); obtain ⟨ve1469_5, rfl, ge1469_5⟩ := k61_openM hMe1469; have hv1469_5 := hcc1469 5 _ rfl; rw [add_field _ _ 5 (by omega)] at hv1469_5; replace hv1469_5 := Option.some.inj (hv1469_5.symm.trans hx1469_5); rw [hv1469_5] at ge1469_5; have HL1469_5 := Aside0.mk (show Kd.R k127 127 _ _ _ _ ((rd_T61 t1457 x6_2).f5) from ge1469_5); clear hv1469_5 ge1469_5; clear hcc1469 hce1469; have HR1469_5 := Aside0.mk hi1469_5; have HC1469_5 := Aside0.mk hl1469_5; clear hi1469_5 hl1469_5; replace p1469 := eq_true p1469; replace q1469 := eq_true q1469) | ((with_reducible refine gate_callee (f := 49) rfl ?_); refine goesL_ (some 59) rfl rfl Try.func49 (by kernel_rfl) rfl #[.slice Ao10 t1454.length co10, .agg #[.int .i64 ((rd_T61 t1457 x6_2).f0), .int .i64 ((rd_T61 t1457 x6_2).f1), .int .i64 ((rd_T61 t1457 x6_2).f2), .int .i64 ((rd_T61 t1457 x6_2).f3), .int .i64 ((rd_T61 t1457 x6_2).f4), .slice A1469_5 ((rd_T61 t1457 x6_2).f5).length c1469_5, .int .i64 ((rd_T61 t1457 x6_2).f6), .bool ((rd_T61 t1457 x6_2).f7)]] rfl mp_q ?_; (with_reducible refine (laws_newest.calls k2 _ _ t1454 ((rd_T61 t1457 x6_2).f0) ((rd_T61 t1457 x6_2).f1) ((rd_T61 t1457 x6_2).f2) ((rd_T61 t1457 x6_2).f3) ((rd_T61 t1457 x6_2).f4) _ _ ((rd_T61 t1457 x6_2).f5) ((rd_T61 t1457 x6_2).f6) ((rd_T61 t1457 x6_2).f7) t1470 _ ?side1 ?side2 ?side3 ?side4 A33.out).mono ?_); (case side1 => repeat (first | exact (Kd.V_reads' HO_4.out).2.2 | (with_reducible refine Kd.C_alloc ?_ _) | (with_reducible refine Kd.C_drewN ?_ _) | (with_reducible refine Kd.C_drew ?_))); (case side2 => exact (Kd.V_reads' HO_4.out).2.1); (case side3 => repeat (first | exact (by repeat (first | (with_reducible exact HR1469_5.out) | (with_reducible refine Kd.C_alloc ?_ _) | (with_reducible refine Kd.C_drewN ?_ _) | (with_reducible refine Kd.C_drew ?_) | exact HR1469_5.out)) | (with_reducible refine Kd.C_alloc ?_ _) | (with_reducible refine Kd.C_drewN ?_ _) | (with_reducible refine Kd.C_drew ?_))); (case side4 => exact HC1469_5.out); rintro e w37 ⟨rfl, hb⟩; refine ⟨_, rfl, ?_⟩; replace HO_3 := Aside0.mk (Kd.V_below (kV_q HO_3) hb); replace HO_4 := Aside0.mk (Kd.V_below (kV_q HO_4) hb); replace HO_5 := Aside0.mk (Kd.S_below (kS_q HO_5) hb); replace HL1467_5 := Aside0.mk (Kd.R_below (kR_q HL1467_5) hb); replace HL1469_5 := Aside0.mk (Kd.R_below (kR_q HL1469_5) hb); replace HR1467_5 := Aside0.mk (Kd.C_below (by repeat (first | (with_reducible exact HR1467_5.out) | (with_reducible refine Kd.C_alloc ?_ _) | (with_reducible refine Kd.C_drewN ?_ _) | (with_reducible refine Kd.C_drew ?_) | exact HR1467_5.out)) hb); replace HR1469_5 := Aside0.mk (Kd.C_below (by repeat (first | (with_reducible exact HR1469_5.out) | (with_reducible refine Kd.C_alloc ?_ _) | (with_reducible refine Kd.C_drewN ?_ _) | (with_reducible refine Kd.C_drew ?_) | exact HR1469_5.out)) hb); replace HB := Aside0.mk (below_step (bw_q HB) hb); (try clear hb); (try clear hb2); (try clear hk); (try clear hi)))
         (try clear hx1467_0); (try clear hx1467_1); (try clear hx1467_2); (try clear hx1467_3); (try clear hx1467_4); (try clear hx1467_5); (try clear hx1467_6); (try clear hx1467_7)
         have H := HC34.out
         clear HC34
         by_cases c38 : t1470 > t1468
         ·rw [if_pos c38] at H
          have c38b0 : decide (t1468 < t1470) = true := decide_eq_true c38
          clear c38
          (first | rw [c38b0] | rw [c38b1] | (simp only [i64_w, i32_w]; first | rw [c38b0] | rw [c38b1]) | skip)
          have HC39 := Aside0.mk H
          clear H
          have p1471 : 0 ≤ (x6_2 : Int) := of_decide_eq_true as_q
          have q1471 : x6_2 < (t1457.length : Int) := of_decide_eq_true as_q
          obtain ⟨ad1471, A1471_5, c1471_5, e1471, hx1471_0, hx1471_1, hx1471_2, hx1471_3, hx1471_4, hx1471_5, hx1471_6, hx1471_7, hl1471_5, hi1471_5⟩ := at_T61 (Kd.S_reads' HO_5.out).2.2 x6_2 p1471 q1471
          obtain rfl : ad1467 = ad1471 := (by injection e1471)
          obtain ⟨ce1471, hce1471, hMe1471, hcc1471⟩ := Kd.S_get HO_5.out z61 x6_2 p1471 (by first | exact q1471 | exact of_decide_eq_true as_q | (have e_ := (Kd.S_reads' HO_5.out).1; omega))
          obtain ⟨ve1471_5, rfl, ge1471_5⟩ := k61_openM hMe1471
          have hv1471_5 := hcc1471 5 _ rfl
          rw [add_field _ _ 5 (by omega)] at hv1471_5
          replace hv1471_5 := Option.some.inj (hv1471_5.symm.trans hx1471_5)
          rw [hv1471_5] at ge1471_5
          have HL1471_5 := Aside0.mk (show Kd.R k127 127 _ _ _ _ ((rd_T61 t1457 x6_2).f5) from ge1471_5)
          clear hv1471_5 ge1471_5
          clear hcc1471 hce1471
          have HR1471_5 := Aside0.mk hi1471_5
          have HC1471_5 := Aside0.mk hl1471_5
          clear hi1471_5 hl1471_5
          replace p1471 := eq_true p1471
          replace q1471 := eq_true q1471
          go_upto_if 70 with (fail)
          (try clear hx1471_0); (try clear hx1471_1); (try clear hx1471_2); (try clear hx1471_3); (try clear hx1471_4); (try clear hx1471_5); (try clear hx1471_6); (try clear hx1471_7)
          have H := HC39.out
          clear HC39
          by_cases c40 : ((rd_T61 t1457 x6_2).f4) = t1470
          ·rw [if_pos c40] at H
           have c40b0 : (((rd_T61 t1457 x6_2).f4) == t1470) = true := beq_iff_eq.mpr c40
           have c40b1 : (((rd_T61 t1457 x6_2).f4) != t1470) = false := bne_eq_false_iff_eq.mpr c40
           clear c40
           (first | rw [c40b0] | rw [c40b1] | (simp only [i64_w, i32_w]; first | rw [c40b0] | rw [c40b1]) | skip)
           have H' := Aside0.mk H
           clear H
           go_wp2
           go_roundg k2
           case measure => have := HJ6.out; have := HK2.out; omega
           case rel => exact ⟨(wrap64 (x6_2 + 1)), (by first | rfl | (simp; done) | (simp [*]; done)), H', ⟨by have := HJ6.out; have := HK2.out; omega⟩, ⟨by (with_reducible repeat (first | apply Kd.V_alloc | apply Kd.V_drewN | apply Kd.V_drew)); exact HO_3.out⟩, ⟨by (with_reducible repeat (first | apply Kd.V_alloc | apply Kd.V_drewN | apply Kd.V_drew)); exact HO_4.out⟩, ⟨by (with_reducible repeat (first | apply Kd.S_alloc | apply Kd.S_drewN | apply Kd.S_drew)); exact HO_5.out⟩, ⟨bw_q HB⟩⟩
          ·rw [if_neg c40] at H
           have c40b0 : (((rd_T61 t1457 x6_2).f4) == t1470) = false := beq_eq_false_iff_ne.mpr c40
           have c40b1 : (((rd_T61 t1457 x6_2).f4) != t1470) = true := bne_iff_ne.mpr c40
           (first | rw [c40b0] | rw [c40b1] | (simp only [i64_w, i32_w]; first | rw [c40b0] | rw [c40b1]) | skip)
           exact absurd (Option.some.inj H) (by rw [hr_]; decide)
         ·rw [if_neg c38] at H
          have c38b0 : decide (t1468 < t1470) = false := decide_eq_false c38
          clear c38
          (first | rw [c38b0] | rw [c38b1] | (simp only [i64_w, i32_w]; first | rw [c38b0] | rw [c38b1]) | skip)
          have HC41 := Aside0.mk H
          clear H
          have p1472 : 0 ≤ (x6_2 : Int) := of_decide_eq_true as_q
          have q1472 : x6_2 < (t1457.length : Int) := of_decide_eq_true as_q
          obtain ⟨ad1472, A1472_5, c1472_5, e1472, hx1472_0, hx1472_1, hx1472_2, hx1472_3, hx1472_4, hx1472_5, hx1472_6, hx1472_7, hl1472_5, hi1472_5⟩ := at_T61 (Kd.S_reads' HO_5.out).2.2 x6_2 p1472 q1472
          obtain rfl : ad1467 = ad1472 := (by injection e1472)
          obtain ⟨ce1472, hce1472, hMe1472, hcc1472⟩ := Kd.S_get HO_5.out z61 x6_2 p1472 (by first | exact q1472 | exact of_decide_eq_true as_q | (have e_ := (Kd.S_reads' HO_5.out).1; omega))
          obtain ⟨ve1472_5, rfl, ge1472_5⟩ := k61_openM hMe1472
          have hv1472_5 := hcc1472 5 _ rfl
          rw [add_field _ _ 5 (by omega)] at hv1472_5
          replace hv1472_5 := Option.some.inj (hv1472_5.symm.trans hx1472_5)
          rw [hv1472_5] at ge1472_5
          have HL1472_5 := Aside0.mk (show Kd.R k127 127 _ _ _ _ ((rd_T61 t1457 x6_2).f5) from ge1472_5)
          clear hv1472_5 ge1472_5
          clear hcc1472 hce1472
          have HR1472_5 := Aside0.mk hi1472_5
          have HC1472_5 := Aside0.mk hl1472_5
          clear hi1472_5 hl1472_5
          replace p1472 := eq_true p1472
          replace q1472 := eq_true q1472
          go_upto_if 70 with (fail)
          (try clear hx1472_0); (try clear hx1472_1); (try clear hx1472_2); (try clear hx1472_3); (try clear hx1472_4); (try clear hx1472_5); (try clear hx1472_6); (try clear hx1472_7)
          have H := HC41.out
          clear HC41
          by_cases c42 : ((rd_T61 t1457 x6_2).f4) = t1468
          ·rw [if_pos c42] at H
           have c42b0 : (((rd_T61 t1457 x6_2).f4) == t1468) = true := beq_iff_eq.mpr c42
           have c42b1 : (((rd_T61 t1457 x6_2).f4) != t1468) = false := bne_eq_false_iff_eq.mpr c42
           clear c42
           (first | rw [c42b0] | rw [c42b1] | (simp only [i64_w, i32_w]; first | rw [c42b0] | rw [c42b1]) | skip)
           have H' := Aside0.mk H
           clear H
           go_wp2
           go_roundg k2
           case measure => have := HJ6.out; have := HK2.out; omega
           case rel => exact ⟨(wrap64 (x6_2 + 1)), (by first | rfl | (simp; done) | (simp [*]; done)), H', ⟨by have := HJ6.out; have := HK2.out; omega⟩, ⟨by (with_reducible repeat (first | apply Kd.V_alloc | apply Kd.V_drewN | apply Kd.V_drew)); exact HO_3.out⟩, ⟨by (with_reducible repeat (first | apply Kd.V_alloc | apply Kd.V_drewN | apply Kd.V_drew)); exact HO_4.out⟩, ⟨by (with_reducible repeat (first | apply Kd.S_alloc | apply Kd.S_drewN | apply Kd.S_drew)); exact HO_5.out⟩, ⟨bw_q HB⟩⟩
          ·rw [if_neg c42] at H
           have c42b0 : (((rd_T61 t1457 x6_2).f4) == t1468) = false := beq_eq_false_iff_ne.mpr c42
           have c42b1 : (((rd_T61 t1457 x6_2).f4) != t1468) = true := bne_iff_ne.mpr c42
           (first | rw [c42b0] | rw [c42b1] | (simp only [i64_w, i32_w]; first | rw [c42b0] | rw [c42b1]) | skip)
           exact absurd (Option.some.inj H) (by rw [hr_]; decide)
        ·rw [if_neg c31] at H
         exact absurd H (by simp)
       ·rw [if_neg c30] at H
        have c30b0 : decide (x6_2 < (t1457.length : Int)) = false := decide_eq_false c30
        clear c30
        replace H := Option.bind_eq_some_iff.mp H
        obtain ⟨t1473, A430, H⟩ := H
        replace H : (laws_FnMerges.l1 k2 t1451 t1454 t1457 t1473 0) = some r := H
        have A43 := Aside0.mk A430
        clear A430
        have H' := Aside0.mk H
        clear H
        obtain ⟨Ao44, co44, eo44⟩ := Kd.S_slice HO_5.out
        subst eo44
        go_wp2_with (first | ((with_reducible refine gate_callee (f := 55) rfl ?_); refine goesL_ (some 73) rfl rfl Try.func55 (by kernel_rfl) rfl #[.slice Ao10 t1454.length co10, .slice Ao9 t1451.length co9] rfl mp_q ?_; (with_reducible refine (impl_Newer.calls k2 _ _ t1454 _ _ t1451 t1473 _ ?side1 ?side2 ?side3 ?side4 A43.out).mono ?_); (case side1 => repeat (first | exact (Kd.V_reads' HO_4.out).2.2 | (with_reducible refine Kd.C_alloc ?_ _) | (with_reducible refine Kd.C_drewN ?_ _) | (with_reducible refine Kd.C_drew ?_))); (case side2 => exact (Kd.V_reads' HO_4.out).2.1); (case side3 => repeat (first | exact (Kd.V_reads' HO_3.out).2.2 | (with_reducible refine Kd.C_alloc ?_ _) | (with_reducible refine Kd.C_drewN ?_ _) | (with_reducible refine Kd.C_drew ?_))); (case side4 => exact (Kd.V_reads' HO_3.out).2.1); rintro e w45 ⟨v1474, rfl, ho0, hb⟩; refine ⟨_, rfl, ?_⟩; replace HO_3 := Aside0.mk (Kd.V_elder' (kV_q HO_3) (Kd.S_base ho0) hb); replace HO_4 := Aside0.mk (Kd.V_elder' (kV_q HO_4) (Kd.S_base ho0) hb); have HO1475 := Aside0.mk (Kd.S_lower (Kd.S_new' ho0 (Kd.S_lt (kS_q HO_5))) (below_size (bw_q HB))); replace HO_5 := Aside0.mk (Kd.S_elder' (kS_q HO_5) (Kd.S_base ho0) hb); replace HB := Aside0.mk (below_step (bw_q HB) hb); (try clear hb); (try clear hb2); (try clear hk); (try clear hi); (try clear ho0)))
        go_loopg [10] k2 (fun kq v10 w' => ∃ (x10_3 : Int), v10 = .int .i64 x10_3 ∧ Aside0 (laws_FnMerges.l1 kq t1451 t1454 t1457 t1473 x10_3 = some r) ∧ Aside0 (kq ≤ k2) ∧ Aside0 (Kd.V k61 61 w' w.heap.size (fun k_ => some k_ ≠ ((.slice Ao44 t1457.length co44) : Value).ownBlock ∧ some k_ ≠ (v1474 : Value).ownBlock) (.slice Ao9 t1451.length co9) t1451) ∧ Aside0 (Kd.V k61 61 w' w.heap.size (fun k_ => some k_ ≠ ((.slice Ao44 t1457.length co44) : Value).ownBlock ∧ some k_ ≠ (v1474 : Value).ownBlock) (.slice Ao10 t1454.length co10) t1454) ∧ Aside0 (Kd.S k61 61 w' w.heap.size (fun k_ => some k_ ≠ (v1474 : Value).ownBlock) (.slice Ao44 t1457.length co44) t1457) ∧ Aside0 (Kd.S k61 61 w' w.heap.size (fun k_ => some k_ ≠ ((.slice Ao44 t1457.length co44) : Value).ownBlock) v1474 t1473) ∧ Aside0 (Below w.heap.size w w'))
        case atStart => exact ⟨(0), (by first | rfl | (simp; done) | (simp [*]; done)), H', ⟨Nat.le_refl _⟩, ⟨by (with_reducible repeat (first | apply Kd.V_alloc | apply Kd.V_drewN | apply Kd.V_drew)); exact HO_3.out⟩, ⟨by (with_reducible repeat (first | apply Kd.V_alloc | apply Kd.V_drewN | apply Kd.V_drew)); exact HO_4.out⟩, ⟨by (with_reducible repeat (first | apply Kd.S_alloc | apply Kd.S_drewN | apply Kd.S_drew)); exact Kd.S_mono HO_5.out (fun _ hk => hk.2)⟩, ⟨by (with_reducible repeat (first | apply Kd.S_alloc | apply Kd.S_drewN | apply Kd.S_drew)); exact Kd.S_mono HO1475.out (fun _ hk => hk.2)⟩, ⟨bw_q HB⟩⟩
        case round =>
         clear H'
         try clear c1
         try clear p1
         try clear q1
         try clear hx1
         try clear c2
         try clear p2
         try clear c3
         try clear c4
         try clear c5
         try clear p6
         try clear c11
         try clear c13
         try clear c14
         try clear p14
         try clear q14
         try clear hx14
         try clear c15
         try clear c15b0
         try clear c15b1
         try clear c15b2
         try clear c29
         try clear c30
         try clear c30b0
         try clear c31
         try clear c31b0
         try clear c38
         try clear c38b0
         try clear c38b1
         try clear c40
         try clear c40b0
         try clear c40b1
         try clear c42
         try clear c42b0
         try clear c42b1
         try clear c44
         try clear hx1467_0
         try clear hx1467_1
         try clear hx1467_2
         try clear hx1467_3
         try clear hx1467_4
         try clear hx1467_5
         try clear hx1467_6
         try clear hx1467_7
         try clear hx1469_0
         try clear hx1469_1
         try clear hx1469_2
         try clear hx1469_3
         try clear hx1469_4
         try clear hx1469_5
         try clear hx1469_6
         try clear hx1469_7
         try clear hx1471_0
         try clear hx1471_1
         try clear hx1471_2
         try clear hx1471_3
         try clear hx1471_4
         try clear hx1471_5
         try clear hx1471_6
         try clear hx1471_7
         try clear hx1472_0
         try clear hx1472_1
         try clear hx1472_2
         try clear hx1472_3
         try clear hx1472_4
         try clear hx1472_5
         try clear hx1472_6
         try clear hx1472_7
         try clear p1467
         try clear p1469
         try clear p1471
         try clear p1472
         try clear p2
         try clear q1467
         try clear q1469
         try clear q1471
         try clear q1472
         obtain ⟨x10_3, rfl, HA, HK3, HO_3, HO_4, HO_5, HO_9, HB⟩ := hrel
         cases gk with
         | zero => exact absurd HA.out (by simp [laws_FnMerges.l1])
         | succ k3 =>
          have H := HA.out
          clear HA
          simp only [laws_FnMerges.l1] at H
          by_cases c46 : x10_3 < (t1473.length : Int)
          ·rw [if_pos c46] at H
           have c46b0 : decide (x10_3 < (t1473.length : Int)) = true := decide_eq_true c46
           clear c46
           by_cases c47 : 0 ≤ x10_3
           ·rw [if_pos c47] at H
            have c47b0 : decide (0 ≤ x10_3) = true := decide_eq_true c47
            clear c47
            replace H := Option.bind_eq_some_iff.mp H
            obtain ⟨t1477, A480, H⟩ := H
            replace H : (if t1477 ≥ ((rd_T61 t1473 x10_3).f4) then (some false) else (laws_FnMerges.l1 k3 t1451 t1454 t1457 t1473 (wrap64 (x10_3 + 1)))) = some r := H
            have A48 := Aside0.mk A480
            clear A480
            by_cases c49 : t1477 ≥ ((rd_T61 t1473 x10_3).f4)
            ·rw [if_pos c49] at H
             have c49b0 : decide (((rd_T61 t1473 x10_3).f4) ≤ t1477) = true := decide_eq_true c49
             clear c49
             exact absurd (Option.some.inj H) (by rw [hr_]; decide)
            ·rw [if_neg c49] at H
             have c49b0 : decide (((rd_T61 t1473 x10_3).f4) ≤ t1477) = false := decide_eq_false c49
             clear c49
             have H' := Aside0.mk H
             clear H
             obtain ⟨Ao50, co50, eo50⟩ := Kd.S_slice HO_9.out
             subst eo50
             try go_wp2
             replace HO_3 := Aside0.mk (Kd.V_drew HO_3.out)
             replace HO_4 := Aside0.mk (Kd.V_drew HO_4.out)
             replace HO_5 := Aside0.mk (Kd.S_drew HO_5.out)
             replace HO_9 := Aside0.mk (Kd.S_drew HO_9.out)
             replace HB := Aside0.mk (below_drew1 HB.out)
             have p1476 : 0 ≤ (x10_3 : Int) := of_decide_eq_true as_q
             have q1476 : x10_3 < (t1473.length : Int) := of_decide_eq_true as_q
             obtain ⟨ad1476, A1476_5, c1476_5, e1476, hx1476_0, hx1476_1, hx1476_2, hx1476_3, hx1476_4, hx1476_5, hx1476_6, hx1476_7, hl1476_5, hi1476_5⟩ := at_T61 (Kd.S_reads' HO_9.out).2.2 x10_3 p1476 q1476
             cases e1476
             obtain ⟨ce1476, hce1476, hMe1476, hcc1476⟩ := Kd.S_get HO_9.out z61 x10_3 p1476 (by first | exact q1476 | exact of_decide_eq_true as_q | (have e_ := (Kd.S_reads' HO_9.out).1; omega))
             obtain ⟨ve1476_5, rfl, ge1476_5⟩ := k61_openM hMe1476
             have hv1476_5 := hcc1476 5 _ rfl
             rw [add_field _ _ 5 (by omega)] at hv1476_5
             replace hv1476_5 := Option.some.inj (hv1476_5.symm.trans hx1476_5)
             rw [hv1476_5] at ge1476_5
             have HL1476_5 := Aside0.mk (show Kd.R k127 127 _ _ _ _ ((rd_T61 t1473 x10_3).f5) from ge1476_5)
             clear hv1476_5 ge1476_5
             clear hcc1476 hce1476
             have HR1476_5 := Aside0.mk hi1476_5
             have HC1476_5 := Aside0.mk hl1476_5
             clear hi1476_5 hl1476_5
             replace p1476 := eq_true p1476
             replace q1476 := eq_true q1476
             have p1478 : 0 ≤ (x10_3 : Int) := of_decide_eq_true as_q
             have q1478 : x10_3 < (t1473.length : Int) := of_decide_eq_true as_q
             obtain ⟨ad1478, A1478_5, c1478_5, e1478, hx1478_0, hx1478_1, hx1478_2, hx1478_3, hx1478_4, hx1478_5, hx1478_6, hx1478_7, hl1478_5, hi1478_5⟩ := at_T61 (Kd.S_reads' HO_9.out).2.2 x10_3 p1478 q1478
             obtain rfl : ad1476 = ad1478 := (by injection e1478)
             obtain ⟨ce1478, hce1478, hMe1478, hcc1478⟩ := Kd.S_get HO_9.out z61 x10_3 p1478 (by first | exact q1478 | exact of_decide_eq_true as_q | (have e_ := (Kd.S_reads' HO_9.out).1; omega))
             obtain ⟨ve1478_5, rfl, ge1478_5⟩ := k61_openM hMe1478
             have hv1478_5 := hcc1478 5 _ rfl
             rw [add_field _ _ 5 (by omega)] at hv1478_5
             replace hv1478_5 := Option.some.inj (hv1478_5.symm.trans hx1478_5)
             rw [hv1478_5] at ge1478_5
             have HL1478_5 := Aside0.mk (show Kd.R k127 127 _ _ _ _ ((rd_T61 t1473 x10_3).f5) from ge1478_5)
             clear hv1478_5 ge1478_5
             clear hcc1478 hce1478
             have HR1478_5 := Aside0.mk hi1478_5
             have HC1478_5 := Aside0.mk hl1478_5
             clear hi1478_5 hl1478_5
             replace p1478 := eq_true p1478
             replace q1478 := eq_true q1478
             have ea_ := Option.some.inj (hx1476_5.symm.trans hx1478_5)
             injection ea_ with ea_ en_ ec_
             subst ea_
             subst ec_
             clear en_
             refine start_ (n := 12) (S := fun w' => w'.cell? (ad1476.add ((x10_3).toNat * 8)) = some (.int .i64 ((rd_T61 t1473 x10_3).f0)) ∧ w'.cell? ⟨(ad1476.add ((x10_3).toNat * 8)).block, (ad1476.add ((x10_3).toNat * 8)).off + 1, none⟩ = some (.int .i64 ((rd_T61 t1473 x10_3).f1)) ∧ w'.cell? ⟨(ad1476.add ((x10_3).toNat * 8)).block, (ad1476.add ((x10_3).toNat * 8)).off + 2, none⟩ = some (.int .i64 ((rd_T61 t1473 x10_3).f2)) ∧ w'.cell? ⟨(ad1476.add ((x10_3).toNat * 8)).block, (ad1476.add ((x10_3).toNat * 8)).off + 3, none⟩ = some (.int .i64 ((rd_T61 t1473 x10_3).f3)) ∧ w'.cell? ⟨(ad1476.add ((x10_3).toNat * 8)).block, (ad1476.add ((x10_3).toNat * 8)).off + 4, none⟩ = some (.int .i64 ((rd_T61 t1473 x10_3).f4)) ∧ w'.cell? ⟨(ad1476.add ((x10_3).toNat * 8)).block, (ad1476.add ((x10_3).toNat * 8)).off + 5, none⟩ = some (.slice A1476_5 ((rd_T61 t1473 x10_3).f5).length c1476_5) ∧ w'.cell? ⟨(ad1476.add ((x10_3).toNat * 8)).block, (ad1476.add ((x10_3).toNat * 8)).off + 6, none⟩ = some (.int .i64 ((rd_T61 t1473 x10_3).f6)) ∧ w'.cell? ⟨(ad1476.add ((x10_3).toNat * 8)).block, (ad1476.add ((x10_3).toNat * 8)).off + 7, none⟩ = some (.bool ((rd_T61 t1473 x10_3).f7)) ∧ w'.cell? (ad1476.add ((x10_3).toNat * 8)) = some (.int .i64 ((rd_T61 t1473 x10_3).f0)) ∧ w'.cell? ⟨(ad1476.add ((x10_3).toNat * 8)).block, (ad1476.add ((x10_3).toNat * 8)).off + 1, none⟩ = some (.int .i64 ((rd_T61 t1473 x10_3).f1)) ∧ w'.cell? ⟨(ad1476.add ((x10_3).toNat * 8)).block, (ad1476.add ((x10_3).toNat * 8)).off + 2, none⟩ = some (.int .i64 ((rd_T61 t1473 x10_3).f2)) ∧ w'.cell? ⟨(ad1476.add ((x10_3).toNat * 8)).block, (ad1476.add ((x10_3).toNat * 8)).off + 3, none⟩ = some (.int .i64 ((rd_T61 t1473 x10_3).f3)) ∧ w'.cell? ⟨(ad1476.add ((x10_3).toNat * 8)).block, (ad1476.add ((x10_3).toNat * 8)).off + 4, none⟩ = some (.int .i64 ((rd_T61 t1473 x10_3).f4)) ∧ w'.cell? ⟨(ad1476.add ((x10_3).toNat * 8)).block, (ad1476.add ((x10_3).toNat * 8)).off + 5, none⟩ = some (.slice A1476_5 ((rd_T61 t1473 x10_3).f5).length c1476_5) ∧ w'.cell? ⟨(ad1476.add ((x10_3).toNat * 8)).block, (ad1476.add ((x10_3).toNat * 8)).off + 6, none⟩ = some (.int .i64 ((rd_T61 t1473 x10_3).f6)) ∧ w'.cell? ⟨(ad1476.add ((x10_3).toNat * 8)).block, (ad1476.add ((x10_3).toNat * 8)).off + 7, none⟩ = some (.bool ((rd_T61 t1473 x10_3).f7))) (ds := []) (bL 12 0) (by kernel_rfl) rfl rfl ⟨hx1476_0, hx1476_1, hx1476_2, hx1476_3, hx1476_4, hx1476_5, hx1476_6, hx1476_7, hx1478_0, hx1478_1, hx1478_2, hx1478_3, hx1478_4, hx1478_5, hx1478_6, hx1478_7⟩ (fun hHeld => ?_); refine with_tabW laws_FnMerges.tab20 laws_FnMerges.bits20 (fun HT_ HW_ => ?_)
             generalize wr.drew = w51 at HO_3 HO_4 HO_5 HO_9 HB HL1476_5 HL1478_5 HR1476_5 HR1478_5 hx1476_0 hx1476_1 hx1476_2 hx1476_3 hx1476_4 hx1476_5 hx1476_6 hx1476_7 hx1478_0 hx1478_1 hx1478_2 hx1478_3 hx1478_4 hx1478_5 hx1478_6 hx1478_7 hHeld ⊢
             refine pq_ 0 80 (bL 12 1) HT_.out rfl rfl ?_
             refine pq_ 1 81 (bL 12 3) HT_.out rfl rfl ?_
             refine pq_ 2 82 (bL 12 7) HT_.out rfl rfl ?_
             refine pq_ 3 83 (bL 12 15) HT_.out rfl rfl ?_
             refine pq_ 6 86 (bL 12 79) HT_.out rfl rfl ?_
             refine pq_ 7 87 (bL 12 207) HT_.out rfl rfl ?_
             refine pq_ 8 88 (bL 12 463) HT_.out rfl rfl ?_
             refine pq_ 9 89 (bL 12 975) HT_.out rfl rfl ?_
             refine take_ (i := 4) (N := some 84) (v := ?_) (a' := ?_) (bL 12 991) rfl rfl (take_ofW HT_.out HW_.out (by kernel_rfl)) (fun _ _ _ h => h) (Or.inl ⟨by rfl, ?_⟩) hHeld ?_ ?_; rotate_left; (rintro w' ⟨s0, s1, s2, s3, s4, s5, s6, s7, s8, s9, s10, s11, s12, s13, s14, s15⟩; go_simp; with_reducible rfl); rotate_left; (exact put_q)
             refine take_ (i := 10) (N := some 90) (v := ?_) (a' := ?_) (bL 12 2015) rfl rfl (take_ofW HT_.out HW_.out (by kernel_rfl)) (fun _ _ _ h => h) (Or.inl ⟨by rfl, ?_⟩) hHeld ?_ ?_; rotate_left; (rintro w' ⟨s0, s1, s2, s3, s4, s5, s6, s7, s8, s9, s10, s11, s12, s13, s14, s15⟩; go_simp; with_reducible rfl); rotate_left; (exact put_q)
             refine one_ (i := 5) (N := some 85) (bL 12 2047) rfl rfl (one_of HT_.out (by kernel_rfl)) (by decide) (fun K hK => ?_)
             refine goes_ Try.func49 (by kernel_rfl) rfl #[.slice Ao9 t1451.length co9, .agg #[.int .i64 ((rd_T61 t1473 x10_3).f0), .int .i64 ((rd_T61 t1473 x10_3).f1), .int .i64 ((rd_T61 t1473 x10_3).f2), .int .i64 ((rd_T61 t1473 x10_3).f3), .int .i64 ((rd_T61 t1473 x10_3).f4), .slice A1476_5 ((rd_T61 t1473 x10_3).f5).length c1476_5, .int .i64 ((rd_T61 t1473 x10_3).f6), .bool ((rd_T61 t1473 x10_3).f7)]] (by rfl) rfl rfl mp_q ?_
             with_reducible refine (laws_newest.calls k3 _ _ t1451 ((rd_T61 t1473 x10_3).f0) ((rd_T61 t1473 x10_3).f1) ((rd_T61 t1473 x10_3).f2) ((rd_T61 t1473 x10_3).f3) ((rd_T61 t1473 x10_3).f4) _ _ ((rd_T61 t1473 x10_3).f5) ((rd_T61 t1473 x10_3).f6) ((rd_T61 t1473 x10_3).f7) t1477 _ ?side1 ?side2 ?side3 ?side4 A48.out).mono ?_
             (case side1 => repeat (first | exact (Kd.V_reads' HO_3.out).2.2 | (with_reducible refine Kd.C_alloc ?_ _) | (with_reducible refine Kd.C_drewN ?_ _) | (with_reducible refine Kd.C_drew ?_)))
             (case side2 => exact (Kd.V_reads' HO_3.out).2.1)
             (case side3 => repeat (first | exact (by repeat (first | (with_reducible exact HR1476_5.out) | (with_reducible refine Kd.C_alloc ?_ _) | (with_reducible refine Kd.C_drewN ?_ _) | (with_reducible refine Kd.C_drew ?_) | exact HR1476_5.out)) | (with_reducible refine Kd.C_alloc ?_ _) | (with_reducible refine Kd.C_drewN ?_ _) | (with_reducible refine Kd.C_drew ?_)))
             (case side4 => exact HC1476_5.out)
             rintro e w52 ⟨rfl, hb⟩
             have HS0_ := (hb.cell (World.block_lt_of_cell? _ _ (hHeld.1))).trans (hHeld.1)
             have HS1_ := (hb.cell (World.block_lt_of_cell? _ _ (hHeld.2.1))).trans (hHeld.2.1)
             have HS2_ := (hb.cell (World.block_lt_of_cell? _ _ (hHeld.2.2.1))).trans (hHeld.2.2.1)
             have HS3_ := (hb.cell (World.block_lt_of_cell? _ _ (hHeld.2.2.2.1))).trans (hHeld.2.2.2.1)
             have HS4_ := (hb.cell (World.block_lt_of_cell? _ _ (hHeld.2.2.2.2.1))).trans (hHeld.2.2.2.2.1)
             have HS5_ := (hb.cell (World.block_lt_of_cell? _ _ (hHeld.2.2.2.2.2.1))).trans (hHeld.2.2.2.2.2.1)
             have HS6_ := (hb.cell (World.block_lt_of_cell? _ _ (hHeld.2.2.2.2.2.2.1))).trans (hHeld.2.2.2.2.2.2.1)
             have HS7_ := (hb.cell (World.block_lt_of_cell? _ _ (hHeld.2.2.2.2.2.2.2.1))).trans (hHeld.2.2.2.2.2.2.2.1)
             have HS8_ := (hb.cell (World.block_lt_of_cell? _ _ (hHeld.2.2.2.2.2.2.2.2.1))).trans (hHeld.2.2.2.2.2.2.2.2.1)
             have HS9_ := (hb.cell (World.block_lt_of_cell? _ _ (hHeld.2.2.2.2.2.2.2.2.2.1))).trans (hHeld.2.2.2.2.2.2.2.2.2.1)
             have HS10_ := (hb.cell (World.block_lt_of_cell? _ _ (hHeld.2.2.2.2.2.2.2.2.2.2.1))).trans (hHeld.2.2.2.2.2.2.2.2.2.2.1)
             have HS11_ := (hb.cell (World.block_lt_of_cell? _ _ (hHeld.2.2.2.2.2.2.2.2.2.2.2.1))).trans (hHeld.2.2.2.2.2.2.2.2.2.2.2.1)
             have HS12_ := (hb.cell (World.block_lt_of_cell? _ _ (hHeld.2.2.2.2.2.2.2.2.2.2.2.2.1))).trans (hHeld.2.2.2.2.2.2.2.2.2.2.2.2.1)
             have HS13_ := (hb.cell (World.block_lt_of_cell? _ _ (hHeld.2.2.2.2.2.2.2.2.2.2.2.2.2.1))).trans (hHeld.2.2.2.2.2.2.2.2.2.2.2.2.2.1)
             have HS14_ := (hb.cell (World.block_lt_of_cell? _ _ (hHeld.2.2.2.2.2.2.2.2.2.2.2.2.2.2.1))).trans (hHeld.2.2.2.2.2.2.2.2.2.2.2.2.2.2.1)
             have HS15_ := (hb.cell (World.block_lt_of_cell? _ _ (hHeld.2.2.2.2.2.2.2.2.2.2.2.2.2.2.2))).trans (hHeld.2.2.2.2.2.2.2.2.2.2.2.2.2.2.2)
             refine ⟨_, rfl, ?_⟩
             replace HO_3 := Aside0.mk (Kd.V_below (kV_q HO_3) hb)
             replace HO_4 := Aside0.mk (Kd.V_below (kV_q HO_4) hb)
             replace HO_5 := Aside0.mk (Kd.S_below (kS_q HO_5) hb)
             replace HO_9 := Aside0.mk (Kd.S_below (kS_q HO_9) hb)
             replace HL1476_5 := Aside0.mk (Kd.R_below (kR_q HL1476_5) hb)
             replace HL1478_5 := Aside0.mk (Kd.R_below (kR_q HL1478_5) hb)
             replace HR1476_5 := Aside0.mk (Kd.C_below (by repeat (first | (with_reducible exact HR1476_5.out) | (with_reducible refine Kd.C_alloc ?_ _) | (with_reducible refine Kd.C_drewN ?_ _) | (with_reducible refine Kd.C_drew ?_) | exact HR1476_5.out)) hb)
             replace HR1478_5 := Aside0.mk (Kd.C_below (by repeat (first | (with_reducible exact HR1478_5.out) | (with_reducible refine Kd.C_alloc ?_ _) | (with_reducible refine Kd.C_drewN ?_ _) | (with_reducible refine Kd.C_drew ?_) | exact HR1478_5.out)) hb)
             replace HB := Aside0.mk (below_step (bw_q HB) hb)
             (try clear hb)
             (try clear hb2)
             (try clear hk)
             (try clear hi)
             refine hK.out _ _ ⟨HS0_, HS1_, HS2_, HS3_, HS4_, HS5_, HS6_, HS7_, HS8_, HS9_, HS10_, HS11_, HS12_, HS13_, HS14_, HS15_⟩ (fun hHeld => ?_)
             clear hK K
             refine norm_ (a' := ?_) ?_ ?_; rotate_left; (show Act.put _ (some 85) _ = _; simp only [Act.put, List.setIfInBounds_toArray, List.set_cons_zero, List.set_cons_succ, i64_w, i32_w]; rfl)
             refine pq_ 11 91 (bL 12 4095) HT_.out rfl rfl ?_
             refine done_ (done_of HT_.out (by kernel_rfl)) ?_
             try go_wp2
             go_roundg k3
             case measure => have := HJ6.out; have := HK2.out; have := HK3.out; omega
             case rel => exact ⟨(wrap64 (x10_3 + 1)), (by first | rfl | (simp; done) | (simp [*]; done)), H', ⟨by have := HJ6.out; have := HK2.out; have := HK3.out; omega⟩, ⟨by (with_reducible repeat (first | apply Kd.V_alloc | apply Kd.V_drewN | apply Kd.V_drew)); exact HO_3.out⟩, ⟨by (with_reducible repeat (first | apply Kd.V_alloc | apply Kd.V_drewN | apply Kd.V_drew)); exact HO_4.out⟩, ⟨by (with_reducible repeat (first | apply Kd.S_alloc | apply Kd.S_drewN | apply Kd.S_drew)); exact HO_5.out⟩, ⟨by (with_reducible repeat (first | apply Kd.S_alloc | apply Kd.S_drewN | apply Kd.S_drew)); exact HO_9.out⟩, ⟨bw_q HB⟩⟩
           ·rw [if_neg c47] at H
            exact absurd H (by simp)
          ·rw [if_neg c46] at H
           have c46b0 : decide (x10_3 < (t1473.length : Int)) = false := decide_eq_false c46
           clear c46
           have H' := Aside0.mk H
           clear H
           obtain ⟨Ao53, co53, eo53⟩ := Kd.S_slice HO_9.out
           subst eo53
           go_wp2
           go_loopg [11, 12] k3 (fun kq v11 v12 w' => ∃ (x11_4 : Int) (x12_4 : Int), v11 = .int .i64 x11_4 ∧ v12 = .int .i64 x12_4 ∧ Aside0 (laws_FnMerges.l2 kq t1454 t1457 x11_4 x12_4 = some r) ∧ Aside0 (kq ≤ k3) ∧ Aside0 (Kd.V k61 61 w' w.heap.size (fun k_ => some k_ ≠ ((.slice Ao44 t1457.length co44) : Value).ownBlock) (.slice Ao10 t1454.length co10) t1454) ∧ Aside0 (Kd.S k61 61 w' w.heap.size (fun _ => True) (.slice Ao44 t1457.length co44) t1457) ∧ Aside0 (Below w.heap.size w w'))
           case atStart => exact ⟨(0), (0), (by first | rfl | (simp; done) | (simp [*]; done)), (by first | rfl | (simp; done) | (simp [*]; done)), H', ⟨Nat.le_refl _⟩, ⟨by (with_reducible repeat (first | apply Kd.V_alloc | apply Kd.V_drewN | apply Kd.V_drew)); exact Kd.V_mono HO_4.out (fun _ hk => hk.1)⟩, ⟨by (with_reducible repeat (first | apply Kd.S_alloc | apply Kd.S_drewN | apply Kd.S_drew)); exact Kd.S_mono HO_5.out (fun _ hk => trivial)⟩, ⟨bw_q HB⟩⟩
           case round =>
            clear H'
            try clear c1
            try clear p1
            try clear q1
            try clear hx1
            try clear c2
            try clear p2
            try clear c3
            try clear c4
            try clear c5
            try clear p6
            try clear c11
            try clear c13
            try clear c14
            try clear p14
            try clear q14
            try clear hx14
            try clear c15
            try clear c15b0
            try clear c15b1
            try clear c15b2
            try clear c29
            try clear c30
            try clear c30b0
            try clear c31
            try clear c31b0
            try clear c38
            try clear c38b0
            try clear c38b1
            try clear c40
            try clear c40b0
            try clear c40b1
            try clear c42
            try clear c42b0
            try clear c42b1
            try clear c44
            try clear c46
            try clear c46b0
            try clear c47
            try clear c47b0
            try clear c49
            try clear c49b0
            try clear c50
            try clear hx1467_0
            try clear hx1467_1
            try clear hx1467_2
            try clear hx1467_3
            try clear hx1467_4
            try clear hx1467_5
            try clear hx1467_6
            try clear hx1467_7
            try clear hx1469_0
            try clear hx1469_1
            try clear hx1469_2
            try clear hx1469_3
            try clear hx1469_4
            try clear hx1469_5
            try clear hx1469_6
            try clear hx1469_7
            try clear hx1471_0
            try clear hx1471_1
            try clear hx1471_2
            try clear hx1471_3
            try clear hx1471_4
            try clear hx1471_5
            try clear hx1471_6
            try clear hx1471_7
            try clear hx1472_0
            try clear hx1472_1
            try clear hx1472_2
            try clear hx1472_3
            try clear hx1472_4
            try clear hx1472_5
            try clear hx1472_6
            try clear hx1472_7
            try clear hx1476_0
            try clear hx1476_1
            try clear hx1476_2
            try clear hx1476_3
            try clear hx1476_4
            try clear hx1476_5
            try clear hx1476_6
            try clear hx1476_7
            try clear hx1478_0
            try clear hx1478_1
            try clear hx1478_2
            try clear hx1478_3
            try clear hx1478_4
            try clear hx1478_5
            try clear hx1478_6
            try clear hx1478_7
            try clear p1
            try clear p14
            try clear p1467
            try clear p1469
            try clear p1471
            try clear p1472
            try clear p1476
            try clear p1478
            try clear p2
            try clear p6
            try clear q1
            try clear q14
            try clear q1467
            try clear q1469
            try clear q1471
            try clear q1472
            try clear q1476
            try clear q1478
            obtain ⟨x11_4, x12_4, rfl, rfl, HA, HK4, HO_4, HO_5, HB⟩ := hrel
            cases gk with
            | zero => exact absurd HA.out (by simp [laws_FnMerges.l2])
            | succ k4 =>
             have H := HA.out
             clear HA
             simp only [laws_FnMerges.l2] at H
             by_cases c54 : x12_4 ≤ 2
             ·rw [if_pos c54] at H
              have c54b0 : decide (x12_4 ≤ 2) = true := decide_eq_true c54
              clear c54
              replace H := Option.bind_eq_some_iff.mp H
              obtain ⟨t1486, A550, H⟩ := H
              replace H : (laws_FnMerges.l3 k4 t1454 t1457 x11_4 x12_4 t1486 0) = some r := H
              have A55 := Aside0.mk A550
              clear A550
              have H' := Aside0.mk H
              clear H
              go_wp2_with (first | ((with_reducible refine gate_callee (f := 56) rfl ?_); refine goesL_ (some 98) rfl rfl Try.func56 (by kernel_rfl) rfl #[.slice Ao44 t1457.length co44, .int .i64 x12_4] rfl mp_q ?_; (with_reducible refine (impl_Scope.calls k4 _ _ t1457 x12_4 t1486 _ ?side1 ?side2 A55.out).mono ?_); (case side1 => repeat (first | exact (Kd.S_reads' HO_5.out).2.2 | (with_reducible refine Kd.C_alloc ?_ _) | (with_reducible refine Kd.C_drewN ?_ _) | (with_reducible refine Kd.C_drew ?_))); (case side2 => exact (Kd.S_reads' HO_5.out).2.1); rintro e w56 ⟨v1487, rfl, ho0, hb⟩; refine ⟨_, rfl, ?_⟩; replace HO_4 := Aside0.mk (Kd.V_elder' (kV_q HO_4) (Kd.S_base ho0) hb); have HO1488 := Aside0.mk (Kd.S_lower (Kd.S_new' ho0 (Kd.S_lt (kS_q HO_5))) (below_size (bw_q HB))); replace HO_5 := Aside0.mk (Kd.S_elder' (kS_q HO_5) (Kd.S_base ho0) hb); replace HB := Aside0.mk (below_step (bw_q HB) hb); (try clear hb); (try clear hb2); (try clear hk); (try clear hi); (try clear ho0)))
              go_loopg [11, 14] k4 (fun kq v11 v14 w' => ∃ (x11_5 : Int) (x14_5 : Int), v11 = .int .i64 x11_5 ∧ v14 = .int .i64 x14_5 ∧ Aside0 (laws_FnMerges.l3 kq t1454 t1457 x11_5 x12_4 t1486 x14_5 = some r) ∧ Aside0 (kq ≤ k4) ∧ Aside0 (Kd.V k61 61 w' w.heap.size (fun k_ => some k_ ≠ ((.slice Ao44 t1457.length co44) : Value).ownBlock ∧ some k_ ≠ (v1487 : Value).ownBlock) (.slice Ao10 t1454.length co10) t1454) ∧ Aside0 (Kd.S k61 61 w' w.heap.size (fun k_ => some k_ ≠ (v1487 : Value).ownBlock) (.slice Ao44 t1457.length co44) t1457) ∧ Aside0 (Kd.S k61 61 w' w.heap.size (fun k_ => some k_ ≠ ((.slice Ao44 t1457.length co44) : Value).ownBlock) v1487 t1486) ∧ Aside0 (Below w.heap.size w w'))
              case atStart => exact ⟨(x11_4), (0), (by first | rfl | (simp; done) | (simp [*]; done)), (by first | rfl | (simp; done) | (simp [*]; done)), H', ⟨Nat.le_refl _⟩, ⟨by (with_reducible repeat (first | apply Kd.V_alloc | apply Kd.V_drewN | apply Kd.V_drew)); exact HO_4.out⟩, ⟨by (with_reducible repeat (first | apply Kd.S_alloc | apply Kd.S_drewN | apply Kd.S_drew)); exact Kd.S_mono HO_5.out (fun _ hk => hk.2)⟩, ⟨by (with_reducible repeat (first | apply Kd.S_alloc | apply Kd.S_drewN | apply Kd.S_drew)); exact Kd.S_mono HO1488.out (fun _ hk => hk.2)⟩, ⟨bw_q HB⟩⟩
              case round =>
               clear H'
               try clear c1
               try clear p1
               try clear q1
               try clear hx1
               try clear c2
               try clear p2
               try clear c3
               try clear c4
               try clear c5
               try clear p6
               try clear c11
               try clear c13
               try clear c14
               try clear p14
               try clear q14
               try clear hx14
               try clear c15
               try clear c15b0
               try clear c15b1
               try clear c15b2
               try clear c29
               try clear c30
               try clear c30b0
               try clear c31
               try clear c31b0
               try clear c38
               try clear c38b0
               try clear c38b1
               try clear c40
               try clear c40b0
               try clear c40b1
               try clear c42
               try clear c42b0
               try clear c42b1
               try clear c44
               try clear c46
               try clear c46b0
               try clear c47
               try clear c47b0
               try clear c49
               try clear c49b0
               try clear c50
               try clear c54
               try clear c54b0
               try clear c55
               try clear c56
               try clear hx1467_0
               try clear hx1467_1
               try clear hx1467_2
               try clear hx1467_3
               try clear hx1467_4
               try clear hx1467_5
               try clear hx1467_6
               try clear hx1467_7
               try clear hx1469_0
               try clear hx1469_1
               try clear hx1469_2
               try clear hx1469_3
               try clear hx1469_4
               try clear hx1469_5
               try clear hx1469_6
               try clear hx1469_7
               try clear hx1471_0
               try clear hx1471_1
               try clear hx1471_2
               try clear hx1471_3
               try clear hx1471_4
               try clear hx1471_5
               try clear hx1471_6
               try clear hx1471_7
               try clear hx1472_0
               try clear hx1472_1
               try clear hx1472_2
               try clear hx1472_3
               try clear hx1472_4
               try clear hx1472_5
               try clear hx1472_6
               try clear hx1472_7
               try clear hx1476_0
               try clear hx1476_1
               try clear hx1476_2
               try clear hx1476_3
               try clear hx1476_4
               try clear hx1476_5
               try clear hx1476_6
               try clear hx1476_7
               try clear hx1478_0
               try clear hx1478_1
               try clear hx1478_2
               try clear hx1478_3
               try clear hx1478_4
               try clear hx1478_5
               try clear hx1478_6
               try clear hx1478_7
               try clear p1
               try clear p14
               try clear p1467
               try clear p1469
               try clear p1471
               try clear p1472
               try clear p1476
               try clear p1478
               try clear p2
               try clear p6
               try clear q1
               try clear q14
               try clear q1467
               try clear q1469
               try clear q1471
               try clear q1472
               try clear q1476
               try clear q1478
               obtain ⟨x11_5, x14_5, rfl, rfl, HA, HK5, HO_4, HO_5, HO_13, HB⟩ := hrel
               cases gk with
               | zero => exact absurd HA.out (by simp [laws_FnMerges.l3])
               | succ k5 =>
                have H := HA.out
                clear HA
                simp only [laws_FnMerges.l3] at H
                by_cases c57 : x14_5 < (t1486.length : Int)
                ·rw [if_pos c57] at H
                 have c57b0 : decide (x14_5 < (t1486.length : Int)) = true := decide_eq_true c57
                 clear c57
                 by_cases c58 : 0 ≤ x14_5
                 ·rw [if_pos c58] at H
                  have c58b0 : decide (0 ≤ x14_5) = true := decide_eq_true c58
                  clear c58
                  have HC59 := Aside0.mk H
                  clear H
                  obtain ⟨Ao60, co60, eo60⟩ := Kd.S_slice HO_13.out
                  subst eo60
                  have p1489 : 0 ≤ (x14_5 : Int) := of_decide_eq_true as_q
                  have q1489 : x14_5 < (t1486.length : Int) := of_decide_eq_true as_q
                  obtain ⟨ad1489, A1489_5, c1489_5, e1489, hx1489_0, hx1489_1, hx1489_2, hx1489_3, hx1489_4, hx1489_5, hx1489_6, hx1489_7, hl1489_5, hi1489_5⟩ := at_T61 (Kd.S_reads' HO_13.out).2.2 x14_5 p1489 q1489
                  cases e1489
                  obtain ⟨ce1489, hce1489, hMe1489, hcc1489⟩ := Kd.S_get HO_13.out z61 x14_5 p1489 (by first | exact q1489 | exact of_decide_eq_true as_q | (have e_ := (Kd.S_reads' HO_13.out).1; omega))
                  obtain ⟨ve1489_5, rfl, ge1489_5⟩ := k61_openM hMe1489
                  have hv1489_5 := hcc1489 5 _ rfl
                  rw [add_field _ _ 5 (by omega)] at hv1489_5
                  replace hv1489_5 := Option.some.inj (hv1489_5.symm.trans hx1489_5)
                  rw [hv1489_5] at ge1489_5
                  have HL1489_5 := Aside0.mk (show Kd.R k127 127 _ _ _ _ ((rd_T61 t1486 x14_5).f5) from ge1489_5)
                  clear hv1489_5 ge1489_5
                  clear hcc1489 hce1489
                  have HR1489_5 := Aside0.mk hi1489_5
                  have HC1489_5 := Aside0.mk hl1489_5
                  clear hi1489_5 hl1489_5
                  replace p1489 := eq_true p1489
                  replace q1489 := eq_true q1489
                  go_upto_if 111 with (fail)
                  (try clear hx1489_0); (try clear hx1489_1); (try clear hx1489_2); (try clear hx1489_3); (try clear hx1489_4); (try clear hx1489_5); (try clear hx1489_6); (try clear hx1489_7)
                  have H := HC59.out
                  clear HC59
                  by_cases c61 : ((rd_T61 t1486 x14_5).f0) = x12_4
                  ·rw [if_pos c61] at H
                   have c61b0 : (((rd_T61 t1486 x14_5).f0) == x12_4) = true := beq_iff_eq.mpr c61
                   have c61b1 : (((rd_T61 t1486 x14_5).f0) != x12_4) = false := bne_eq_false_iff_eq.mpr c61
                   clear c61
                   (first | rw [c61b0] | rw [c61b1] | (simp only [i64_w, i32_w]; first | rw [c61b0] | rw [c61b1]) | skip)
                   have H' := Aside0.mk H
                   clear H
                   go_wp2
                   go_roundg k5
                   case measure => have := HJ6.out; have := HK2.out; have := HK3.out; have := HK4.out; have := HK5.out; omega
                   case rel => exact ⟨(wrap64 (x11_5 + 1)), (wrap64 (x14_5 + 1)), (by first | rfl | (simp; done) | (simp [*]; done)), (by first | rfl | (simp; done) | (simp [*]; done)), H', ⟨by have := HJ6.out; have := HK2.out; have := HK3.out; have := HK4.out; have := HK5.out; omega⟩, ⟨by (with_reducible repeat (first | apply Kd.V_alloc | apply Kd.V_drewN | apply Kd.V_drew)); exact HO_4.out⟩, ⟨by (with_reducible repeat (first | apply Kd.S_alloc | apply Kd.S_drewN | apply Kd.S_drew)); exact HO_5.out⟩, ⟨by (with_reducible repeat (first | apply Kd.S_alloc | apply Kd.S_drewN | apply Kd.S_drew)); exact HO_13.out⟩, ⟨bw_q HB⟩⟩
                  ·rw [if_neg c61] at H
                   have c61b0 : (((rd_T61 t1486 x14_5).f0) == x12_4) = false := beq_eq_false_iff_ne.mpr c61
                   have c61b1 : (((rd_T61 t1486 x14_5).f0) != x12_4) = true := bne_iff_ne.mpr c61
                   (first | rw [c61b0] | rw [c61b1] | (simp only [i64_w, i32_w]; first | rw [c61b0] | rw [c61b1]) | skip)
                   have HC62 := Aside0.mk H
                   clear H
                   have p1490 : 0 ≤ (x14_5 : Int) := of_decide_eq_true as_q
                   have q1490 : x14_5 < (t1486.length : Int) := of_decide_eq_true as_q
                   obtain ⟨ad1490, A1490_5, c1490_5, e1490, hx1490_0, hx1490_1, hx1490_2, hx1490_3, hx1490_4, hx1490_5, hx1490_6, hx1490_7, hl1490_5, hi1490_5⟩ := at_T61 (Kd.S_reads' HO_13.out).2.2 x14_5 p1490 q1490
                   obtain rfl : ad1489 = ad1490 := (by injection e1490)
                   obtain ⟨ce1490, hce1490, hMe1490, hcc1490⟩ := Kd.S_get HO_13.out z61 x14_5 p1490 (by first | exact q1490 | exact of_decide_eq_true as_q | (have e_ := (Kd.S_reads' HO_13.out).1; omega))
                   obtain ⟨ve1490_5, rfl, ge1490_5⟩ := k61_openM hMe1490
                   have hv1490_5 := hcc1490 5 _ rfl
                   rw [add_field _ _ 5 (by omega)] at hv1490_5
                   replace hv1490_5 := Option.some.inj (hv1490_5.symm.trans hx1490_5)
                   rw [hv1490_5] at ge1490_5
                   have HL1490_5 := Aside0.mk (show Kd.R k127 127 _ _ _ _ ((rd_T61 t1486 x14_5).f5) from ge1490_5)
                   clear hv1490_5 ge1490_5
                   clear hcc1490 hce1490
                   have HR1490_5 := Aside0.mk hi1490_5
                   have HC1490_5 := Aside0.mk hl1490_5
                   clear hi1490_5 hl1490_5
                   replace p1490 := eq_true p1490
                   replace q1490 := eq_true q1490
                   go_upto_if 119 with (fail)
                   (try clear hx1490_0); (try clear hx1490_1); (try clear hx1490_2); (try clear hx1490_3); (try clear hx1490_4); (try clear hx1490_5); (try clear hx1490_6); (try clear hx1490_7)
                   have H := HC62.out
                   clear HC62
                   by_cases c63 : ((rd_T61 t1486 x14_5).f0) = 9
                   ·rw [if_pos c63] at H
                    have c63b0 : (((rd_T61 t1486 x14_5).f0) == 9) = true := beq_iff_eq.mpr c63
                    have c63b1 : (((rd_T61 t1486 x14_5).f0) != 9) = false := bne_eq_false_iff_eq.mpr c63
                    clear c63
                    (first | rw [c63b0] | rw [c63b1] | (simp only [i64_w, i32_w]; first | rw [c63b0] | rw [c63b1]) | skip)
                    have H' := Aside0.mk H
                    clear H
                    go_wp2
                    go_roundg k5
                    case measure => have := HJ6.out; have := HK2.out; have := HK3.out; have := HK4.out; have := HK5.out; omega
                    case rel => exact ⟨(x11_5), (wrap64 (x14_5 + 1)), (by first | rfl | (simp; done) | (simp [*]; done)), (by first | rfl | (simp; done) | (simp [*]; done)), H', ⟨by have := HJ6.out; have := HK2.out; have := HK3.out; have := HK4.out; have := HK5.out; omega⟩, ⟨by (with_reducible repeat (first | apply Kd.V_alloc | apply Kd.V_drewN | apply Kd.V_drew)); exact HO_4.out⟩, ⟨by (with_reducible repeat (first | apply Kd.S_alloc | apply Kd.S_drewN | apply Kd.S_drew)); exact HO_5.out⟩, ⟨by (with_reducible repeat (first | apply Kd.S_alloc | apply Kd.S_drewN | apply Kd.S_drew)); exact HO_13.out⟩, ⟨bw_q HB⟩⟩
                   ·rw [if_neg c63] at H
                    have c63b0 : (((rd_T61 t1486 x14_5).f0) == 9) = false := beq_eq_false_iff_ne.mpr c63
                    have c63b1 : (((rd_T61 t1486 x14_5).f0) != 9) = true := bne_iff_ne.mpr c63
                    (first | rw [c63b0] | rw [c63b1] | (simp only [i64_w, i32_w]; first | rw [c63b0] | rw [c63b1]) | skip)
                    exact absurd (Option.some.inj H) (by rw [hr_]; decide)
                 ·rw [if_neg c58] at H
                  exact absurd H (by simp)
                ·rw [if_neg c57] at H
                 have c57b0 : decide (x14_5 < (t1486.length : Int)) = false := decide_eq_false c57
                 clear c57
                 have H' := Aside0.mk H
                 clear H
                 obtain ⟨Ao64, co64, eo64⟩ := Kd.S_slice HO_13.out
                 subst eo64
                 go_wp2
                 go_roundg k5
                 case measure => have := HJ6.out; have := HK2.out; have := HK3.out; have := HK4.out; have := HK5.out; omega
                 case rel => exact ⟨(x11_5), (wrap64 (x12_4 + 1)), (by first | rfl | (simp; done) | (simp [*]; done)), (by first | rfl | (simp; done) | (simp [*]; done)), H', ⟨by have := HJ6.out; have := HK2.out; have := HK3.out; have := HK4.out; have := HK5.out; omega⟩, ⟨by (with_reducible repeat (first | apply Kd.V_alloc | apply Kd.V_drewN | apply Kd.V_drew)); exact Kd.V_mono HO_4.out (fun _ hk => hk.1)⟩, ⟨by (with_reducible repeat (first | apply Kd.S_alloc | apply Kd.S_drewN | apply Kd.S_drew)); exact Kd.S_mono HO_5.out (fun _ hk => trivial)⟩, ⟨bw_q HB⟩⟩
             ·rw [if_neg c54] at H
              have c54b0 : decide (x12_4 ≤ 2) = false := decide_eq_false c54
              clear c54
              replace H := Option.bind_eq_some_iff.mp H
              obtain ⟨t1479, A650, H⟩ := H
              replace H : (if (wrap64 (x11_4 + (t1479.length : Int))) = (t1457.length : Int) then ((impl_Merge.f k4 t1457 t1454).bind fun t1482 => ((laws_sameStore.f k4 t1482 t1457).bind fun t1485 => (some t1485))) else (some false)) = some r := H
              have A65 := Aside0.mk A650
              clear A650
              by_cases c66 : (wrap64 (x11_4 + (t1479.length : Int))) = (t1457.length : Int)
              ·rw [if_pos c66] at H
               have c66b0 : ((wrap64 (x11_4 + (t1479.length : Int))) == (t1457.length : Int)) = true := beq_iff_eq.mpr c66
               have c66b1 : ((wrap64 (x11_4 + (t1479.length : Int))) != (t1457.length : Int)) = false := bne_eq_false_iff_eq.mpr c66
               clear c66
               replace H := Option.bind_eq_some_iff.mp H
               obtain ⟨t1482, A670, H⟩ := H
               replace H : ((laws_sameStore.f k4 t1482 t1457).bind fun t1485 => (some t1485)) = some r := H
               have A67 := Aside0.mk A670
               clear A670
               replace H := Option.bind_eq_some_iff.mp H
               obtain ⟨t1485, A680, H⟩ := H
               replace H : (some t1485) = some r := H
               have A68 := Aside0.mk A680
               clear A680
               obtain rfl := Option.some.inj H
               go_wp2_with (first | ((with_reducible refine gate_callee (f := 56) rfl ?_); refine goesL_ (some 122) rfl rfl Try.func56 (by kernel_rfl) rfl #[.slice Ao44 t1457.length co44, .int .i64 9] rfl mp_q ?_; (with_reducible refine (impl_Scope.calls k4 _ _ t1457 9 t1479 _ ?side1 ?side2 A65.out).mono ?_); (case side1 => repeat (first | exact (Kd.S_reads' HO_5.out).2.2 | (with_reducible refine Kd.C_alloc ?_ _) | (with_reducible refine Kd.C_drewN ?_ _) | (with_reducible refine Kd.C_drew ?_))); (case side2 => exact (Kd.S_reads' HO_5.out).2.1); rintro e w69 ⟨v1480, rfl, ho0, hb⟩; refine ⟨_, rfl, ?_⟩; replace HO_4 := Aside0.mk (Kd.V_elder' (kV_q HO_4) (Kd.S_base ho0) hb); have HO1481 := Aside0.mk (Kd.S_lower (Kd.S_new' ho0 (Kd.S_lt (kS_q HO_5))) (below_size (bw_q HB))); replace HO_5 := Aside0.mk (Kd.S_elder' (kS_q HO_5) (Kd.S_base ho0) hb); replace HB := Aside0.mk (below_step (bw_q HB) hb); (try clear hb); (try clear hb2); (try clear hk); (try clear hi); (try clear ho0); obtain ⟨Ao70, co70, eo70⟩ := Kd.S_slice HO1481.out; subst eo70) | (go_at_call 44; (with_reducible refine (impl_Merge.calls k4 _ _ t1457 _ _ t1454 t1482 _ ?side1 ?side2 ?side3 ?side4 A67.out).mono ?_); (case side1 => repeat (first | exact (Kd.S_reads' HO_5.out).2.2 | (with_reducible refine Kd.C_alloc ?_ _) | (with_reducible refine Kd.C_drewN ?_ _) | (with_reducible refine Kd.C_drew ?_))); (case side2 => exact (Kd.S_reads' HO_5.out).2.1); (case side3 => repeat (first | exact (Kd.V_reads' HO_4.out).2.2 | (with_reducible refine Kd.C_alloc ?_ _) | (with_reducible refine Kd.C_drewN ?_ _) | (with_reducible refine Kd.C_drew ?_))); (case side4 => exact (Kd.V_reads' HO_4.out).2.1); rintro e w71 ⟨v1483, rfl, ho0, hb⟩; replace HO_4 := Aside0.mk (Kd.V_elder' (kV_q HO_4) (Kd.S_base ho0) hb); have HO1484 := Aside0.mk (Kd.S_lower (Kd.S_new' (Kd.S_new' ho0 (Kd.S_lt (kS_q HO_5))) (Kd.S_lt (kS_q HO1481))) (below_size (bw_q HB))); replace HO_5 := Aside0.mk (Kd.S_elder' (kS_q HO_5) (Kd.S_base ho0) hb); replace HO1481 := Aside0.mk (Kd.S_elder' (kS_q HO1481) (Kd.S_base ho0) hb); replace HB := Aside0.mk (below_step (bw_q HB) hb); (try clear hb); (try clear hb2); (try clear hk); (try clear hi); (try clear ho0); obtain ⟨Ao72, co72, eo72⟩ := Kd.S_slice HO1484.out; subst eo72) | (go_at_call 53; (with_reducible refine (laws_sameStore.calls k4 _ _ t1482 _ _ t1457 t1485 _ ?side1 ?side2 ?side3 ?side4 A68.out).mono ?_); (case side1 => repeat (first | exact (Kd.S_reads' HO1484.out).2.2 | (with_reducible refine Kd.C_alloc ?_ _) | (with_reducible refine Kd.C_drewN ?_ _) | (with_reducible refine Kd.C_drew ?_))); (case side2 => exact (Kd.S_reads' HO1484.out).2.1); (case side3 => repeat (first | exact (Kd.S_reads' HO_5.out).2.2 | (with_reducible refine Kd.C_alloc ?_ _) | (with_reducible refine Kd.C_drewN ?_ _) | (with_reducible refine Kd.C_drew ?_))); (case side4 => exact (Kd.S_reads' HO_5.out).2.1); rintro e w73 ⟨rfl, hb⟩; replace HO_4 := Aside0.mk (Kd.V_below (kV_q HO_4) hb); replace HO_5 := Aside0.mk (Kd.S_below (kS_q HO_5) hb); replace HO1481 := Aside0.mk (Kd.S_below (kS_q HO1481) hb); replace HO1484 := Aside0.mk (Kd.S_below (kS_q HO1484) hb); replace HB := Aside0.mk (below_step (bw_q HB) hb); (try clear hb); (try clear hb2); (try clear hk); (try clear hi)))
               go_ret
               exact ⟨er_q, bw_q HB⟩
              ·rw [if_neg c66] at H
               have c66b0 : ((wrap64 (x11_4 + (t1479.length : Int))) == (t1457.length : Int)) = false := beq_eq_false_iff_ne.mpr c66
               have c66b1 : ((wrap64 (x11_4 + (t1479.length : Int))) != (t1457.length : Int)) = true := bne_iff_ne.mpr c66
               exact absurd (Option.some.inj H) (by rw [hr_]; decide)

/-- THE ONE PURE STATEMENT of laws_FnMerges: yours. -/
def laws_FnMerges.Pure : Prop := ∀ (l0 : List Int), l0.length ≤ maxLen → l0.length * 1 ≤ 140737488351232 → (∀ x ∈ l0, (Lit.int .u8 x).wf = true) → ∃ k, laws_FnMerges.f k l0 = some true
theorem laws_FnMerges.walk (P : laws_FnMerges.Pure) (a0 : Option Addr) (len0 cap0 : Nat) (z0 : List Int) (w : World) (w0 : (a0 = none ∧ len0 = 0 ∧ cap0 = 0 ∧ z0 = []) ∨ ∃ x, a0 = some x ∧ len0 ≤ cap0 ∧ cap0 ≤ maxLen ∧ z0.length = cap0 ∧ (∀ i, i < z0.length → w.cell? (x.add i) = some (.int .u8 (z0.getD i 0))) ∧ ∀ n ∈ z0, (Lit.int .u8 n).wf = true) (y0 : len0 * 1 ≤ 140737488351232) :
  Calls Try.prog 11 #[.slice a0 len0 cap0] w fun e w' => e = .returned (.bool true) ∧ Below w.heap.size w w' := by
 obtain ⟨l0, rfl, hr0, hm0, hw0, hc0⟩ := ReadsInt.ofRowC w0
 obtain ⟨k, h⟩ := P l0 hm0 y0 hw0
 refine (laws_FnMerges.calls k _ _ l0 true w (Kd.C_of_reads (d := (0 : Int)) (h1 := fun _ => rfl) hr0) hc0 rfl h).mono ?_
 rintro e w' ⟨rfl, hd⟩
 exact ⟨rfl, hd⟩

end Go.Proofs.Ythjmdiggglkeaaa.Q
