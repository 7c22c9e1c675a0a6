import Derived.Test.YthjmdiggglkeaaaXFnStoresQimplnearOk
import Derived.Test.YthjmdiggglkeaaaXFnStoresQspecSameKey
import Derived.Test.YthjmdiggglkeaaaXFnStoresQimplInstall
import Derived.Test.YthjmdiggglkeaaaXFnStoresQspecl01Once
import Derived.Test.YthjmdiggglkeaaaXFnStoresQlawssame
import Derived.Test.YthjmdiggglkeaaaXFnStoresQlawssameStore
/- A Go function as a Lean function, and its contract: for every input the Go code comes to what the Lean function tells. -/











namespace Go.Proofs.Ythjmdiggglkeaaa.Q
open Go.RowKit Go.Proofs.YthjmdiggglkeaaaW.PrintWords Go.Proofs.YthjmdiggglkeaaaW.PrintLast Go.Proofs.YthjmdiggglkeaaaW.PrintMore
attribute [local go_sem] max2_int min2_int max_two min_two max_three min_three max_four min_four   -- for this text's walks alone
set_option linter.unusedVariables false
set_option linter.unusedSimpArgs false

/-! ### laws_FnStores: function 10 -/
mutual
def laws_FnStores.l0 : Nat → List (S61) → List (S61) → List (S61) → Int → Option (Bool)
 | 0, _, _, _, _ => none
 | k + 1, x3, x4, x5, x6 => if x6 < (x3.length : Int) then (if 0 ≤ x6 then ((impl_Install.f k x4 ((rd_T61 x3 x6).f0) ((rd_T61 x3 x6).f1) ((rd_T61 x3 x6).f2) ((rd_T61 x3 x6).f3) ((rd_T61 x3 x6).f4) ((rd_T61 x3 x6).f5) ((rd_T61 x3 x6).f6) ((rd_T61 x3 x6).f7)).bind fun bt1336 => ((laws_newest.f k x4 ((rd_T61 x3 x6).f0) ((rd_T61 x3 x6).f1) ((rd_T61 x3 x6).f2) ((rd_T61 x3 x6).f3) ((rd_T61 x3 x6).f4) ((rd_T61 x3 x6).f5) ((rd_T61 x3 x6).f6) ((rd_T61 x3 x6).f7)).bind fun t1341 => (if (bt1336.2 != (decide (t1341 < ((rd_T61 x3 x6).f4)))) = true then (some false) else (if bt1336.2 = true then (if 0 ≤ (wrap64 ((wrap64 ((x3.length : Int) - 1)) - x6)) then (if (wrap64 ((wrap64 ((x3.length : Int) - 1)) - x6)) < (x3.length : Int) then ((impl_Install.f k x5 ((rd_T61 x3 (wrap64 ((wrap64 ((x3.length : Int) - 1)) - x6))).f0) ((rd_T61 x3 (wrap64 ((wrap64 ((x3.length : Int) - 1)) - x6))).f1) ((rd_T61 x3 (wrap64 ((wrap64 ((x3.length : Int) - 1)) - x6))).f2) ((rd_T61 x3 (wrap64 ((wrap64 ((x3.length : Int) - 1)) - x6))).f3) ((rd_T61 x3 (wrap64 ((wrap64 ((x3.length : Int) - 1)) - x6))).f4) ((rd_T61 x3 (wrap64 ((wrap64 ((x3.length : Int) - 1)) - x6))).f5) ((rd_T61 x3 (wrap64 ((wrap64 ((x3.length : Int) - 1)) - x6))).f6) ((rd_T61 x3 (wrap64 ((wrap64 ((x3.length : Int) - 1)) - x6))).f7)).bind fun bt1344 => (if bt1344.2 = true then (laws_FnStores.l0 k x3 bt1336.1 bt1344.1 (wrap64 (x6 + 1))) else (laws_FnStores.l0 k x3 bt1336.1 x5 (wrap64 (x6 + 1))))) else (none)) else (none)) else (if 0 ≤ (wrap64 ((wrap64 ((x3.length : Int) - 1)) - x6)) then (if (wrap64 ((wrap64 ((x3.length : Int) - 1)) - x6)) < (x3.length : Int) then ((impl_Install.f k x5 ((rd_T61 x3 (wrap64 ((wrap64 ((x3.length : Int) - 1)) - x6))).f0) ((rd_T61 x3 (wrap64 ((wrap64 ((x3.length : Int) - 1)) - x6))).f1) ((rd_T61 x3 (wrap64 ((wrap64 ((x3.length : Int) - 1)) - x6))).f2) ((rd_T61 x3 (wrap64 ((wrap64 ((x3.length : Int) - 1)) - x6))).f3) ((rd_T61 x3 (wrap64 ((wrap64 ((x3.length : Int) - 1)) - x6))).f4) ((rd_T61 x3 (wrap64 ((wrap64 ((x3.length : Int) - 1)) - x6))).f5) ((rd_T61 x3 (wrap64 ((wrap64 ((x3.length : Int) - 1)) - x6))).f6) ((rd_T61 x3 (wrap64 ((wrap64 ((x3.length : Int) - 1)) - x6))).f7)).bind fun bt1349 => (if bt1349.2 = true then (laws_FnStores.l0 k x3 x4 bt1349.1 (wrap64 (x6 + 1))) else (laws_FnStores.l0 k x3 x4 x5 (wrap64 (x6 + 1))))) else (none)) else (none)))))) else (none)) else ((impl_StoreOk.f k x4).bind fun t1353 => (if t1353 = true then (laws_FnStores.j1 k x3 x4 x5 ((x4.length : Int) != (x5.length : Int))) else (laws_FnStores.j1 k x3 x4 x5 true)))
def laws_FnStores.j1 : Nat → List (S61) → List (S61) → List (S61) → Bool → Option (Bool)
 | 0, _, _, _, _ => none
 | k + 1, x3, x4, x5, x74 => if x74 = true then (some false) else (laws_FnStores.l1 k x3 x4 x5 0)
def laws_FnStores.l1 : Nat → List (S61) → List (S61) → List (S61) → Int → Option (Bool)
 | 0, _, _, _, _ => none
 | k + 1, x3, x4, x5, x9 => if x9 < (x4.length : Int) then (if 0 ≤ x9 then ((impl_Find.f k x4 ((rd_T61 x4 x9).f0) ((rd_T61 x4 x9).f1) ((rd_T61 x4 x9).f2) ((rd_T61 x4 x9).f3) ((rd_T61 x4 x9).f4) ((rd_T61 x4 x9).f5) ((rd_T61 x4 x9).f6) ((rd_T61 x4 x9).f7)).bind fun bt1362 => (if bt1362.2.2.2.2.2.2.2.2 = true then ((laws_same.f k bt1362.1 bt1362.2.1 bt1362.2.2.1 bt1362.2.2.2.1 bt1362.2.2.2.2.1 bt1362.2.2.2.2.2.1 bt1362.2.2.2.2.2.2.1 bt1362.2.2.2.2.2.2.2.1 ((rd_T61 x4 x9).f0) ((rd_T61 x4 x9).f1) ((rd_T61 x4 x9).f2) ((rd_T61 x4 x9).f3) ((rd_T61 x4 x9).f4) ((rd_T61 x4 x9).f5) ((rd_T61 x4 x9).f6) ((rd_T61 x4 x9).f7)).bind fun t1375 => (if t1375 = true then (if x9 < (x5.length : Int) then ((spec_SameKey.f ((rd_T61 x4 x9).f0) ((rd_T61 x4 x9).f1) ((rd_T61 x4 x9).f2) ((rd_T61 x4 x9).f3) ((rd_T61 x4 x9).f4) ((rd_T61 x4 x9).f5) ((rd_T61 x4 x9).f6) ((rd_T61 x4 x9).f7) ((rd_T61 x5 x9).f0) ((rd_T61 x5 x9).f1) ((rd_T61 x5 x9).f2) ((rd_T61 x5 x9).f3) ((rd_T61 x5 x9).f4) ((rd_T61 x5 x9).f5) ((rd_T61 x5 x9).f6) ((rd_T61 x5 x9).f7)).bind fun t1378 => (if t1378 = true then (if ((rd_T61 x4 x9).f4) = ((rd_T61 x5 x9).f4) then ((laws_newest.f k x3 ((rd_T61 x4 x9).f0) ((rd_T61 x4 x9).f1) ((rd_T61 x4 x9).f2) ((rd_T61 x4 x9).f3) ((rd_T61 x4 x9).f4) ((rd_T61 x4 x9).f5) ((rd_T61 x4 x9).f6) ((rd_T61 x4 x9).f7)).bind fun t1383 => (if ((rd_T61 x4 x9).f4) = t1383 then (laws_FnStores.l1 k x3 x4 x5 (wrap64 (x9 + 1))) else (some false))) else (some false)) else (some false))) else (none)) else (some false))) else (some false))) else (none)) else ((impl_Merge.f k (([] : List (S61))) x3).bind fun t1357 => ((laws_sameStore.f k t1357 x4).bind fun t1360 => (some t1360)))
end
def laws_FnStores.f (k : Nat) (l0 : List Int) : Option (Bool) := (laws_big.f l0).bind fun t1325 => (if t1325 = true then (some true) else ((spec_DrawRecords.f k l0).bind fun t1326 => (laws_FnStores.l0 k t1326 (([] : List (S61))) (([] : List (S61))) 0)))
theorem laws_FnStores.mono_l : ∀ k, (∀ y0 y1 y2 y3, LeO (laws_FnStores.l0 k y0 y1 y2 y3) (laws_FnStores.l0 (k + 1) y0 y1 y2 y3)) ∧ (∀ y0 y1 y2 y3, LeO (laws_FnStores.j1 k y0 y1 y2 y3) (laws_FnStores.j1 (k + 1) y0 y1 y2 y3)) ∧ (∀ y0 y1 y2 y3, LeO (laws_FnStores.l1 k y0 y1 y2 y3) (laws_FnStores.l1 (k + 1) y0 y1 y2 y3))
 | 0 => ⟨fun _ _ _ _ r h => by simp [laws_FnStores.l0] at h, fun _ _ _ _ r h => by simp [laws_FnStores.j1] at h, fun _ _ _ _ r h => by simp [laws_FnStores.l1] at h⟩
 | k + 1 => by
  obtain ⟨ih0, ih1, ih2⟩ := laws_FnStores.mono_l k
  refine ⟨?_, ?_, ?_⟩
  ·intro y0 y1 y2 y3
   unfold laws_FnStores.l0
   repeat' first
   | (with_reducible exact ih0 _ _ _ _)
   | (with_reducible exact ih1 _ _ _ _)
   | (with_reducible exact ih2 _ _ _ _)
   | (with_reducible exact impl_Find.mono _ _ _ _ _ _ _ _ _ _)
   | (with_reducible exact impl_Install.mono _ _ _ _ _ _ _ _ _ _)
   | (with_reducible exact impl_Merge.mono _ _ _)
   | (with_reducible exact impl_StoreOk.mono _ _)
   | (with_reducible exact laws_newest.mono _ _ _ _ _ _ _ _ _ _)
   | (with_reducible exact laws_same.mono _ _ _ _ _ _ _ _ _ _ _ _ _ _ _ _ _)
   | (with_reducible exact laws_sameStore.mono _ _ _)
   | (with_reducible exact spec_DrawRecords.mono _ _)
   | (with_reducible exact LeO.refl _)
   | (with_reducible exact LeO.none _)
   | (with_reducible refine LeO.ite ?_ ?_)
   | (with_reducible refine LeO.bind ?_ (fun _ => ?_))
   | exact ih0 _ _ _ _
   | exact ih1 _ _ _ _
   | exact ih2 _ _ _ _
   | exact impl_Find.mono _ _ _ _ _ _ _ _ _ _
   | exact impl_Install.mono _ _ _ _ _ _ _ _ _ _
   | exact impl_Merge.mono _ _ _
   | exact impl_StoreOk.mono _ _
   | exact laws_newest.mono _ _ _ _ _ _ _ _ _ _
   | exact laws_same.mono _ _ _ _ _ _ _ _ _ _ _ _ _ _ _ _ _
   | exact laws_sameStore.mono _ _ _
   | exact spec_DrawRecords.mono _ _
   | exact LeO.none _
   | refine LeO.ite ?_ ?_
   | refine LeO.bind ?_ (fun _ => ?_)
  ·intro y0 y1 y2 y3
   unfold laws_FnStores.j1
   repeat' first
   | (with_reducible exact ih0 _ _ _ _)
   | (with_reducible exact ih1 _ _ _ _)
   | (with_reducible exact ih2 _ _ _ _)
   | (with_reducible exact impl_Find.mono _ _ _ _ _ _ _ _ _ _)
   | (with_reducible exact impl_Install.mono _ _ _ _ _ _ _ _ _ _)
   | (with_reducible exact impl_Merge.mono _ _ _)
   | (with_reducible exact impl_StoreOk.mono _ _)
   | (with_reducible exact laws_newest.mono _ _ _ _ _ _ _ _ _ _)
   | (with_reducible exact laws_same.mono _ _ _ _ _ _ _ _ _ _ _ _ _ _ _ _ _)
   | (with_reducible exact laws_sameStore.mono _ _ _)
   | (with_reducible exact spec_DrawRecords.mono _ _)
   | (with_reducible exact LeO.refl _)
   | (with_reducible exact LeO.none _)
   | (with_reducible refine LeO.ite ?_ ?_)
   | (with_reducible refine LeO.bind ?_ (fun _ => ?_))
   | exact ih0 _ _ _ _
   | exact ih1 _ _ _ _
   | exact ih2 _ _ _ _
   | exact impl_Find.mono _ _ _ _ _ _ _ _ _ _
   | exact impl_Install.mono _ _ _ _ _ _ _ _ _ _
   | exact impl_Merge.mono _ _ _
   | exact impl_StoreOk.mono _ _
   | exact laws_newest.mono _ _ _ _ _ _ _ _ _ _
   | exact laws_same.mono _ _ _ _ _ _ _ _ _ _ _ _ _ _ _ _ _
   | exact laws_sameStore.mono _ _ _
   | exact spec_DrawRecords.mono _ _
   | exact LeO.none _
   | refine LeO.ite ?_ ?_
   | refine LeO.bind ?_ (fun _ => ?_)
  ·intro y0 y1 y2 y3
   unfold laws_FnStores.l1
   repeat' first
   | (with_reducible exact ih0 _ _ _ _)
   | (with_reducible exact ih1 _ _ _ _)
   | (with_reducible exact ih2 _ _ _ _)
   | (with_reducible exact impl_Find.mono _ _ _ _ _ _ _ _ _ _)
   | (with_reducible exact impl_Install.mono _ _ _ _ _ _ _ _ _ _)
   | (with_reducible exact impl_Merge.mono _ _ _)
   | (with_reducible exact impl_StoreOk.mono _ _)
   | (with_reducible exact laws_newest.mono _ _ _ _ _ _ _ _ _ _)
   | (with_reducible exact laws_same.mono _ _ _ _ _ _ _ _ _ _ _ _ _ _ _ _ _)
   | (with_reducible exact laws_sameStore.mono _ _ _)
   | (with_reducible exact spec_DrawRecords.mono _ _)
   | (with_reducible exact LeO.refl _)
   | (with_reducible exact LeO.none _)
   | (with_reducible refine LeO.ite ?_ ?_)
   | (with_reducible refine LeO.bind ?_ (fun _ => ?_))
   | exact ih0 _ _ _ _
   | exact ih1 _ _ _ _
   | exact ih2 _ _ _ _
   | exact impl_Find.mono _ _ _ _ _ _ _ _ _ _
   | exact impl_Install.mono _ _ _ _ _ _ _ _ _ _
   | exact impl_Merge.mono _ _ _
   | exact impl_StoreOk.mono _ _
   | exact laws_newest.mono _ _ _ _ _ _ _ _ _ _
   | exact laws_same.mono _ _ _ _ _ _ _ _ _ _ _ _ _ _ _ _ _
   | exact laws_sameStore.mono _ _ _
   | exact spec_DrawRecords.mono _ _
   | exact LeO.none _
   | refine LeO.ite ?_ ?_
   | refine LeO.bind ?_ (fun _ => ?_)
theorem laws_FnStores.mono : ∀ a0 k, LeO (laws_FnStores.f k a0) (laws_FnStores.f (k + 1) a0) := by
 intro a0 k
 obtain ⟨ih0, ih1, ih2⟩ := laws_FnStores.mono_l k
 unfold laws_FnStores.f
 repeat' first
   | (with_reducible exact ih0 _ _ _ _)
   | (with_reducible exact ih1 _ _ _ _)
   | (with_reducible exact ih2 _ _ _ _)
   | (with_reducible exact impl_Find.mono _ _ _ _ _ _ _ _ _ _)
   | (with_reducible exact impl_Install.mono _ _ _ _ _ _ _ _ _ _)
   | (with_reducible exact impl_Merge.mono _ _ _)
   | (with_reducible exact impl_StoreOk.mono _ _)
   | (with_reducible exact laws_newest.mono _ _ _ _ _ _ _ _ _ _)
   | (with_reducible exact laws_same.mono _ _ _ _ _ _ _ _ _ _ _ _ _ _ _ _ _)
   | (with_reducible exact laws_sameStore.mono _ _ _)
   | (with_reducible exact spec_DrawRecords.mono _ _)
   | (with_reducible exact LeO.refl _)
   | (with_reducible exact LeO.none _)
   | (with_reducible refine LeO.ite ?_ ?_)
   | (with_reducible refine LeO.bind ?_ (fun _ => ?_))
   | exact ih0 _ _ _ _
   | exact ih1 _ _ _ _
   | exact ih2 _ _ _ _
   | exact impl_Find.mono _ _ _ _ _ _ _ _ _ _
   | exact impl_Install.mono _ _ _ _ _ _ _ _ _ _
   | exact impl_Merge.mono _ _ _
   | exact impl_StoreOk.mono _ _
   | exact laws_newest.mono _ _ _ _ _ _ _ _ _ _
   | exact laws_same.mono _ _ _ _ _ _ _ _ _ _ _ _ _ _ _ _ _
   | exact laws_sameStore.mono _ _ _
   | exact spec_DrawRecords.mono _ _
   | exact LeO.none _
   | refine LeO.ite ?_ ?_
   | refine LeO.bind ?_ (fun _ => ?_)
def laws_FnStores.T10 : Bool × List (List Nat × List Nat) := (true, [([], []), ([], []), ([], []), ([], []), ([2, 3], [2, 3]), ([4], [4]), ([1, 5], [1, 5]), ([], []), ([], []), ([7, 8], [7, 8]), ([9], [9]), ([10], [10]), ([6, 11], [6, 11]), ([0, 12], [0, 12])])
def laws_FnStores.B10 : List Nat := [0, 0, 0, 0, 12, 28, 62, 0, 0, 384, 896, 1920, 4094, 8191]
theorem laws_FnStores.tab10 : rtab .any (opsOf Try.f10 10) = laws_FnStores.T10 := by kernel_rfl
theorem laws_FnStores.bits10 : waitsOk laws_FnStores.T10.2 laws_FnStores.B10 = true := by kernel_rfl
def laws_FnStores.T23 : Bool × List (List Nat × List Nat) := (true, [([], []), ([0], [0]), ([1], [1]), ([2], [2]), ([2], [2]), ([2], [2]), ([4, 5, 2], [2, 4, 5]), ([6, 2], [2, 6]), ([3, 7, 2, 2], [2, 3, 7]), ([8, 2], [2, 8]), ([2, 9], [2, 9]), ([10, 8], [10]), ([11], [11]), ([11], [11]), ([12, 13, 11], [11, 12, 13]), ([14, 11], [11, 14]), ([11], [11]), ([11], [11]), ([16, 17, 11], [11, 16, 17]), ([18, 11], [11, 18]), ([15, 19, 11, 11], [11, 15, 19]), ([20, 11], [11, 20]), ([11, 21], [11, 21]), ([22, 20], [22]), ([23], [23]), ([23], [23]), ([24, 25, 23], [23, 24, 25]), ([26, 23], [23, 26]), ([27, 23], [23, 27]), ([23], [23]), ([23], [23]), ([29, 30, 23], [23, 29, 30]), ([31, 23], [23, 31]), ([32, 23], [23, 32]), ([28, 33, 23], [23, 28, 33]), ([23, 34], [23, 34]), ([35, 23], [35]), ([36], [36]), ([36], [36]), ([37, 38, 36], [36, 37, 38]), ([39, 36], [36, 39]), ([40, 36], [36, 40]), ([36], [36]), ([36], [36]), ([36], [36]), ([43, 44, 36], [36, 43, 44]), ([45, 36], [36, 45]), ([42, 46, 36, 36], [36, 42, 46]), ([41, 47, 36], [36, 41, 47]), ([36, 48], [36, 48])])
def laws_FnStores.B23 : List Nat := [0, 1, 3, 7, 7, 7, 55, 119, 255, 511, 1023, 2047, 4095, 4095, 16383, 32767, 4095, 4095, 200703, 462847, 1048575, 2097151, 4194303, 8388607, 16777215, 16777215, 67108863, 134217727, 268435455, 16777215, 16777215, 1627389951, 3774873599, 8069840895, 17179869183, 34359738367, 68719476735, 137438953471, 137438953471, 549755813887, 1099511627775, 2199023255551, 137438953471, 137438953471, 137438953471, 26525718020095, 61710090108927, 136476880797695, 281474976710655, 562949953421311]
theorem laws_FnStores.tab23 : rtab .any (opsOf Try.f10 23) = laws_FnStores.T23 := by kernel_rfl
theorem laws_FnStores.bits23 : waitsOk laws_FnStores.T23.2 laws_FnStores.B23 = true := by kernel_rfl
set_option maxHeartbeats 8000000 in
set_option maxRecDepth 100000 in
theorem laws_FnStores.calls (k : Nat) (A0 : Option Addr) (c0 : Nat) (l0 : List Int) (r : Bool) (w : World) (hr0 : Kd.C (Kd.int .u8) w A0 l0.length l0) (hc0 : l0.length ≤ c0) (hr_ : r = true) (h : laws_FnStores.f k l0 = some r) :
  Calls Try.prog 10 #[.slice A0 l0.length c0] w fun e w' => e = .returned (.bool r) ∧ Below w.heap.size w w' := by
 have hu61 := Try.underlying61
 have HR0 := Aside0.mk hr0
 have HC0 := Aside0.mk hc0
 clear hr0 hc0
 have HB := Aside0.mk (Below.refl w.heap.size w)
 have H : ((laws_big.f l0).bind fun t1325 => (if t1325 = true then (some true) else ((spec_DrawRecords.f k l0).bind fun t1326 => (laws_FnStores.l0 k t1326 (([] : List (S61))) (([] : List (S61))) 0)))) = some r := h
 clear h
 replace H := Option.bind_eq_some_iff.mp H
 obtain ⟨t1325, A20, H⟩ := H
 replace H : (if t1325 = true then (some true) else ((spec_DrawRecords.f k l0).bind fun t1326 => (laws_FnStores.l0 k t1326 (([] : List (S61))) (([] : List (S61))) 0))) = some r := H
 have A2 := Aside0.mk A20
 clear A20
 have HC3 := Aside0.mk H
 clear H
 go_enter Try.func10, Try.ntmps10
 go_upto_if 14 with (first | ((with_reducible refine gate_callee (f := 47) rfl ?_); refine goesL_ (some 14) rfl rfl Try.func47 (by kernel_rfl) rfl #[.slice A0 l0.length c0] rfl mp_q ?_; (with_reducible refine (laws_big.calls _ _ l0 t1325 _ ?side1 ?side2 A2.out).mono ?_); (case side1 => repeat (first | exact HR0.out | (with_reducible refine Kd.C_alloc ?_ _) | (with_reducible refine Kd.C_drewN ?_ _) | (with_reducible refine Kd.C_drew ?_))); (case side2 => exact HC0.out); rintro e w' ⟨rfl, ⟨nd, rfl⟩⟩; refine ⟨_, rfl, ?_⟩))
 have H := HC3.out
 clear HC3
 by_cases c4 : t1325 = true
 ·subst c4
  have H1 : (some true) = some r := by rw [if_pos rfl] at H; exact H
  clear H
  have H := H1
  clear H1
  obtain rfl := Option.some.inj H
  go_wp2
  go_ret
  exact ⟨er_q, bw_q HB⟩
 ·replace c4 := Bool.eq_false_iff.mpr c4
  subst c4
  have H1 : ((spec_DrawRecords.f k l0).bind fun t1326 => (laws_FnStores.l0 k t1326 (([] : List (S61))) (([] : List (S61))) 0)) = some r := by rw [if_neg (show ¬ (false = true) by decide)] at H; exact H
  clear H
  have H := H1
  clear H1
  replace H := Option.bind_eq_some_iff.mp H
  obtain ⟨t1326, A50, H⟩ := H
  replace H : (laws_FnStores.l0 k t1326 (([] : List (S61))) (([] : List (S61))) 0) = some r := H
  have A5 := Aside0.mk A50
  clear A50
  obtain ⟨y1329, hy1329⟩ : ∃ y_ : List (S61), y_ = (([] : List (S61))) := ⟨_, rfl⟩
  replace H : (laws_FnStores.l0 k t1326 y1329 (([] : List (S61))) 0) = some r := by first | (rw [hy1329]; with_reducible exact H) | (have H2_ := (Option.bind_some _ _).symm.trans H; rw [hy1329]; with_reducible exact H2_) | (have H2_ := (Option.bind_some _ _).symm.trans H; with_reducible exact H2_) | with_reducible exact H | (rw [hy1329]; exact H) | exact H
  have Ny1329 := Aside0.mk hy1329
  clear hy1329
  obtain ⟨y1332, hy1332⟩ : ∃ y_ : List (S61), y_ = (([] : List (S61))) := ⟨_, rfl⟩
  replace H : (laws_FnStores.l0 k t1326 y1329 y1332 0) = some r := by first | (rw [hy1332]; with_reducible exact H) | (have H2_ := (Option.bind_some _ _).symm.trans H; rw [hy1332]; with_reducible exact H2_) | (have H2_ := (Option.bind_some _ _).symm.trans H; with_reducible exact H2_) | with_reducible exact H | (rw [hy1332]; exact H) | exact H
  have Ny1332 := Aside0.mk hy1332
  clear hy1332
  have H' := Aside0.mk H
  clear H
  go_wp2_with (first | ((with_reducible refine gate_callee (f := 48) rfl ?_); refine goesL_ (some 16) rfl rfl Try.func48 (by kernel_rfl) rfl #[.slice A0 l0.length c0] rfl mp_q ?_; (with_reducible refine (spec_DrawRecords.calls k _ _ l0 t1326 _ ?side1 ?side2 A5.out).mono ?_); (case side1 => exact cs_q (Kd.C_below HR0.out HB.out)); (case side2 => exact HC0.out); rintro e w6 ⟨v1327, rfl, ho0, hb⟩; refine ⟨_, rfl, ?_⟩; have HO1328 := Aside0.mk (Kd.S_lower ho0 (below_size (bw_q HB))); replace HB := Aside0.mk (below_step (bw_q HB) hb); (try clear hb); (try clear hb2); (try clear hk); (try clear hi); (try clear ho0)) | ((with_reducible refine gate_dst (N := 17) rfl ?_); (try (refine gate_guard (by rfl) ?_; dsimp only)); refine Kd.S_lit k61 _ 61 ?hg (N := 17) ?hd (xs := ([] : List (S61))) (inner := []) (ok := fun _ => True) (okp := fun _ => True) ?hr ?hp (fun _ hk => hk) trivial (Below.refl _ _) (Nat.le_refl _) (by simp) ?_; (case hd => rfl); (case hg => rfl); (case hr => first | (go_simp; done) | (go_simp; rfl)); (case hp => exact (Reps.none _ _)); intro v1330 w7 ho8 hb hg_ hnew_; clear hg_ hnew_; (first | rw [← Ny1329.out] at ho8 | (simp only [Int.reduceToNat] at ho8; rw [← Ny1329.out] at ho8)); have HO1331 := Aside0.mk (Kd.S_lower (Kd.S_new' ho8 (Kd.S_lt (kS_q HO1328))) (below_size (bw_q HB))); replace HO1328 := Aside0.mk (Kd.S_elder' (kS_q HO1328) (Kd.S_base ho8) hb); replace HB := Aside0.mk (below_step (bw_q HB) hb); clear hb ho8) | ((with_reducible refine gate_dst (N := 18) rfl ?_); (try (refine gate_guard (by rfl) ?_; dsimp only)); refine Kd.S_lit k61 _ 61 ?hg (N := 18) ?hd (xs := ([] : List (S61))) (inner := []) (ok := fun _ => True) (okp := fun _ => True) ?hr ?hp (fun _ hk => hk) trivial (Below.refl _ _) (Nat.le_refl _) (by simp) ?_; (case hd => rfl); (case hg => rfl); (case hr => first | (go_simp; done) | (go_simp; rfl)); (case hp => exact (Reps.none _ _)); intro v1333 w9 ho10 hb hg_ hnew_; clear hg_ hnew_; (first | rw [← Ny1332.out] at ho10 | (simp only [Int.reduceToNat] at ho10; rw [← Ny1332.out] at ho10)); have HO1334 := Aside0.mk (Kd.S_lower (Kd.S_new' (Kd.S_new' ho10 (Kd.S_lt (kS_q HO1328))) (Kd.S_lt (kS_q HO1331))) (below_size (bw_q HB))); replace HO1328 := Aside0.mk (Kd.S_elder' (kS_q HO1328) (Kd.S_base ho10) hb); replace HO1331 := Aside0.mk (Kd.S_elder' (kS_q HO1331) (Kd.S_base ho10) hb); replace HB := Aside0.mk (below_step (bw_q HB) hb); clear hb ho10))
  go_loopg [4, 5, 6] k (fun kq v4 v5 v6 w' => ∃ (x4_1 : List (S61)) (x5_1 : List (S61)) (x6_1 : Int), v6 = .int .i64 x6_1 ∧ Aside0 (laws_FnStores.l0 kq t1326 x4_1 x5_1 x6_1 = some r) ∧ Aside0 (kq ≤ k) ∧ Aside0 (Kd.S k61 61 w' w.heap.size (fun k_ => some k_ ≠ (v4 : Value).ownBlock ∧ some k_ ≠ (v5 : Value).ownBlock) v1327 t1326) ∧ Aside0 (Kd.S k61 61 w' w.heap.size (fun k_ => some k_ ≠ (v1327 : Value).ownBlock ∧ some k_ ≠ (v5 : Value).ownBlock) v4 x4_1) ∧ Aside0 (Kd.S k61 61 w' w.heap.size (fun k_ => some k_ ≠ (v1327 : Value).ownBlock ∧ some k_ ≠ (v4 : Value).ownBlock) v5 x5_1) ∧ Aside0 (Below w.heap.size w w'))
  case atStart => exact ⟨(y1329), (y1332), (0), (by first | rfl | (simp; done) | (simp [*]; done)), H', ⟨Nat.le_refl _⟩, ⟨by (with_reducible repeat (first | apply Kd.S_alloc | apply Kd.S_drewN | apply Kd.S_drew)); exact Kd.S_mono HO1328.out (fun _ hk => ⟨hk.1.2, hk.2⟩)⟩, ⟨by (with_reducible repeat (first | apply Kd.S_alloc | apply Kd.S_drewN | apply Kd.S_drew)); exact Kd.S_mono HO1331.out (fun _ hk => ⟨hk.1.2, hk.2⟩)⟩, ⟨by (with_reducible repeat (first | apply Kd.S_alloc | apply Kd.S_drewN | apply Kd.S_drew)); exact Kd.S_mono HO1334.out (fun _ hk => ⟨hk.1.2, hk.2⟩)⟩, ⟨bw_q HB⟩⟩
  case round =>
   clear H'
   try clear c1
   try clear p2
   try clear c4
   try clear c10
   obtain ⟨x4_1, x5_1, x6_1, rfl, HA, HK1, HO_3, HO_4, HO_5, HB⟩ := hrel
   cases gk with
   | zero => exact absurd HA.out (by simp [laws_FnStores.l0])
   | succ k1 =>
    have H := HA.out
    clear HA
    simp only [laws_FnStores.l0] at H
    by_cases c11 : x6_1 < (t1326.length : Int)
    ·rw [if_pos c11] at H
     have c11b0 : decide (x6_1 < (t1326.length : Int)) = true := decide_eq_true c11
     clear c11
     (first | rw [c11b0] | rw [c11b1] | (simp only [i64_w, i32_w]; first | rw [c11b0] | rw [c11b1]) | skip)
     by_cases c12 : 0 ≤ x6_1
     ·rw [if_pos c12] at H
      have c12b0 : decide (0 ≤ x6_1) = true := decide_eq_true c12
      clear c12
      replace H := Option.bind_eq_some_iff.mp H
      obtain ⟨⟨t1336, t1339⟩, A130, H⟩ := H
      replace H : ((laws_newest.f k1 x4_1 ((rd_T61 t1326 x6_1).f0) ((rd_T61 t1326 x6_1).f1) ((rd_T61 t1326 x6_1).f2) ((rd_T61 t1326 x6_1).f3) ((rd_T61 t1326 x6_1).f4) ((rd_T61 t1326 x6_1).f5) ((rd_T61 t1326 x6_1).f6) ((rd_T61 t1326 x6_1).f7)).bind fun t1341 => (if (t1339 != (decide (t1341 < ((rd_T61 t1326 x6_1).f4)))) = true then (some false) else (if t1339 = true then (if 0 ≤ (wrap64 ((wrap64 ((t1326.length : Int) - 1)) - x6_1)) then (if (wrap64 ((wrap64 ((t1326.length : Int) - 1)) - x6_1)) < (t1326.length : Int) then ((impl_Install.f k1 x5_1 ((rd_T61 t1326 (wrap64 ((wrap64 ((t1326.length : Int) - 1)) - x6_1))).f0) ((rd_T61 t1326 (wrap64 ((wrap64 ((t1326.length : Int) - 1)) - x6_1))).f1) ((rd_T61 t1326 (wrap64 ((wrap64 ((t1326.length : Int) - 1)) - x6_1))).f2) ((rd_T61 t1326 (wrap64 ((wrap64 ((t1326.length : Int) - 1)) - x6_1))).f3) ((rd_T61 t1326 (wrap64 ((wrap64 ((t1326.length : Int) - 1)) - x6_1))).f4) ((rd_T61 t1326 (wrap64 ((wrap64 ((t1326.length : Int) - 1)) - x6_1))).f5) ((rd_T61 t1326 (wrap64 ((wrap64 ((t1326.length : Int) - 1)) - x6_1))).f6) ((rd_T61 t1326 (wrap64 ((wrap64 ((t1326.length : Int) - 1)) - x6_1))).f7)).bind fun bt1344 => (if bt1344.2 = true then (laws_FnStores.l0 k1 t1326 t1336 bt1344.1 (wrap64 (x6_1 + 1))) else (laws_FnStores.l0 k1 t1326 t1336 x5_1 (wrap64 (x6_1 + 1))))) else (none)) else (none)) else (if 0 ≤ (wrap64 ((wrap64 ((t1326.length : Int) - 1)) - x6_1)) then (if (wrap64 ((wrap64 ((t1326.length : Int) - 1)) - x6_1)) < (t1326.length : Int) then ((impl_Install.f k1 x5_1 ((rd_T61 t1326 (wrap64 ((wrap64 ((t1326.length : Int) - 1)) - x6_1))).f0) ((rd_T61 t1326 (wrap64 ((wrap64 ((t1326.length : Int) - 1)) - x6_1))).f1) ((rd_T61 t1326 (wrap64 ((wrap64 ((t1326.length : Int) - 1)) - x6_1))).f2) ((rd_T61 t1326 (wrap64 ((wrap64 ((t1326.length : Int) - 1)) - x6_1))).f3) ((rd_T61 t1326 (wrap64 ((wrap64 ((t1326.length : Int) - 1)) - x6_1))).f4) ((rd_T61 t1326 (wrap64 ((wrap64 ((t1326.length : Int) - 1)) - x6_1))).f5) ((rd_T61 t1326 (wrap64 ((wrap64 ((t1326.length : Int) - 1)) - x6_1))).f6) ((rd_T61 t1326 (wrap64 ((wrap64 ((t1326.length : Int) - 1)) - x6_1))).f7)).bind fun bt1349 => (if bt1349.2 = true then (laws_FnStores.l0 k1 t1326 x4_1 bt1349.1 (wrap64 (x6_1 + 1))) else (laws_FnStores.l0 k1 t1326 x4_1 x5_1 (wrap64 (x6_1 + 1))))) else (none)) else (none))))) = some r := H
      have A13 := Aside0.mk A130
      clear A130
      replace H := Option.bind_eq_some_iff.mp H
      obtain ⟨t1341, A140, H⟩ := H
      replace H : (if (t1339 != (decide (t1341 < ((rd_T61 t1326 x6_1).f4)))) = true then (some false) else (if t1339 = true then (if 0 ≤ (wrap64 ((wrap64 ((t1326.length : Int) - 1)) - x6_1)) then (if (wrap64 ((wrap64 ((t1326.length : Int) - 1)) - x6_1)) < (t1326.length : Int) then ((impl_Install.f k1 x5_1 ((rd_T61 t1326 (wrap64 ((wrap64 ((t1326.length : Int) - 1)) - x6_1))).f0) ((rd_T61 t1326 (wrap64 ((wrap64 ((t1326.length : Int) - 1)) - x6_1))).f1) ((rd_T61 t1326 (wrap64 ((wrap64 ((t1326.length : Int) - 1)) - x6_1))).f2) ((rd_T61 t1326 (wrap64 ((wrap64 ((t1326.length : Int) - 1)) - x6_1))).f3) ((rd_T61 t1326 (wrap64 ((wrap64 ((t1326.length : Int) - 1)) - x6_1))).f4) ((rd_T61 t1326 (wrap64 ((wrap64 ((t1326.length : Int) - 1)) - x6_1))).f5) ((rd_T61 t1326 (wrap64 ((wrap64 ((t1326.length : Int) - 1)) - x6_1))).f6) ((rd_T61 t1326 (wrap64 ((wrap64 ((t1326.length : Int) - 1)) - x6_1))).f7)).bind fun bt1344 => (if bt1344.2 = true then (laws_FnStores.l0 k1 t1326 t1336 bt1344.1 (wrap64 (x6_1 + 1))) else (laws_FnStores.l0 k1 t1326 t1336 x5_1 (wrap64 (x6_1 + 1))))) else (none)) else (none)) else (if 0 ≤ (wrap64 ((wrap64 ((t1326.length : Int) - 1)) - x6_1)) then (if (wrap64 ((wrap64 ((t1326.length : Int) - 1)) - x6_1)) < (t1326.length : Int) then ((impl_Install.f k1 x5_1 ((rd_T61 t1326 (wrap64 ((wrap64 ((t1326.length : Int) - 1)) - x6_1))).f0) ((rd_T61 t1326 (wrap64 ((wrap64 ((t1326.length : Int) - 1)) - x6_1))).f1) ((rd_T61 t1326 (wrap64 ((wrap64 ((t1326.length : Int) - 1)) - x6_1))).f2) ((rd_T61 t1326 (wrap64 ((wrap64 ((t1326.length : Int) - 1)) - x6_1))).f3) ((rd_T61 t1326 (wrap64 ((wrap64 ((t1326.length : Int) - 1)) - x6_1))).f4) ((rd_T61 t1326 (wrap64 ((wrap64 ((t1326.length : Int) - 1)) - x6_1))).f5) ((rd_T61 t1326 (wrap64 ((wrap64 ((t1326.length : Int) - 1)) - x6_1))).f6) ((rd_T61 t1326 (wrap64 ((wrap64 ((t1326.length : Int) - 1)) - x6_1))).f7)).bind fun bt1349 => (if bt1349.2 = true then (laws_FnStores.l0 k1 t1326 x4_1 bt1349.1 (wrap64 (x6_1 + 1))) else (laws_FnStores.l0 k1 t1326 x4_1 x5_1 (wrap64 (x6_1 + 1))))) else (none)) else (none)))) = some r := H
      have A14 := Aside0.mk A140
      clear A140
      by_cases c15 : (t1339 != (decide (t1341 < ((rd_T61 t1326 x6_1).f4)))) = true
      ·rw [if_pos c15] at H
       have c15b0 : (t1339 != (decide (t1341 < ((rd_T61 t1326 x6_1).f4)))) = true := c15
       (try (have c15b1 : decide (t1339 = (decide (t1341 < ((rd_T61 t1326 x6_1).f4)))) = false := by simpa using c15))
       (try (have c15b2 : (t1339 == (decide (t1341 < ((rd_T61 t1326 x6_1).f4)))) = false := by simpa using c15))
       (try (have c15b3 : ¬ (t1339 = (decide (t1341 < ((rd_T61 t1326 x6_1).f4)))) := by simpa using c15))
       clear c15
       exact absurd (Option.some.inj H) (by rw [hr_]; decide)
      ·rw [if_neg c15] at H
       have c15b0 : (t1339 != (decide (t1341 < ((rd_T61 t1326 x6_1).f4)))) = false := by simpa using c15
       (try (have c15b1 : decide (t1339 = (decide (t1341 < ((rd_T61 t1326 x6_1).f4)))) = true := by simpa using c15))
       (try (have c15b2 : (t1339 == (decide (t1341 < ((rd_T61 t1326 x6_1).f4)))) = true := by simpa using c15))
       clear c15
       have HZ18 := Aside0.mk H
       clear H
       obtain ⟨Ao22, co22, eo22⟩ := Kd.S_slice HO_3.out
       subst eo22
       have p1335 : 0 ≤ (x6_1 : Int) := of_decide_eq_true as_q
       have q1335 : x6_1 < (t1326.length : Int) := of_decide_eq_true as_q
       obtain ⟨ad1335, A1335_5, c1335_5, e1335, hx1335_0, hx1335_1, hx1335_2, hx1335_3, hx1335_4, hx1335_5, hx1335_6, hx1335_7, hl1335_5, hi1335_5⟩ := at_T61 (Kd.S_reads' HO_3.out).2.2 x6_1 p1335 q1335
       cases e1335
       obtain ⟨ce1335, hce1335, hMe1335, hcc1335⟩ := Kd.S_get HO_3.out z61 x6_1 p1335 (by first | exact q1335 | exact of_decide_eq_true as_q | (have e_ := (Kd.S_reads' HO_3.out).1; omega))
       obtain ⟨ve1335_5, rfl, ge1335_5⟩ := k61_openM hMe1335
       have hv1335_5 := hcc1335 5 _ rfl
       rw [add_field _ _ 5 (by omega)] at hv1335_5
       replace hv1335_5 := Option.some.inj (hv1335_5.symm.trans hx1335_5)
       rw [hv1335_5] at ge1335_5
       have HL1335_5 := Aside0.mk (show Kd.R k127 127 _ _ _ _ ((rd_T61 t1326 x6_1).f5) from ge1335_5)
       clear hv1335_5 ge1335_5
       clear hcc1335 hce1335
       have HR1335_5 := Aside0.mk hi1335_5
       have HC1335_5 := Aside0.mk hl1335_5
       clear hi1335_5 hl1335_5
       replace p1335 := eq_true p1335
       replace q1335 := eq_true q1335
       obtain ⟨Ao23, co23, eo23⟩ := Kd.S_slice HO_4.out
       subst eo23
       try go_wp2_with (first | ((with_reducible refine gate_callee (f := 42) rfl ?_); refine goesL_ (some 31) rfl rfl Try.func42 (by kernel_rfl) rfl #[.slice Ao23 x4_1.length co23, .agg #[.int .i64 ((rd_T61 t1326 x6_1).f0), .int .i64 ((rd_T61 t1326 x6_1).f1), .int .i64 ((rd_T61 t1326 x6_1).f2), .int .i64 ((rd_T61 t1326 x6_1).f3), .int .i64 ((rd_T61 t1326 x6_1).f4), .slice A1335_5 ((rd_T61 t1326 x6_1).f5).length c1335_5, .int .i64 ((rd_T61 t1326 x6_1).f6), .bool ((rd_T61 t1326 x6_1).f7)]] rfl mp_q ?_; (with_reducible refine (impl_Install.calls k1 _ _ x4_1 ((rd_T61 t1326 x6_1).f0) ((rd_T61 t1326 x6_1).f1) ((rd_T61 t1326 x6_1).f2) ((rd_T61 t1326 x6_1).f3) ((rd_T61 t1326 x6_1).f4) _ _ ((rd_T61 t1326 x6_1).f5) ((rd_T61 t1326 x6_1).f6) ((rd_T61 t1326 x6_1).f7) t1336 t1339 _ ?side1 ?side2 ?side3 ?side4 A13.out).mono ?_); (case side1 => repeat (first | exact (Kd.S_reads' HO_4.out).2.2 | (with_reducible refine Kd.C_alloc ?_ _) | (with_reducible refine Kd.C_drewN ?_ _) | (with_reducible refine Kd.C_drew ?_))); (case side2 => exact (Kd.S_reads' HO_4.out).2.1); (case side3 => repeat (first | exact (by repeat (first | (with_reducible exact HR1335_5.out) | (with_reducible refine Kd.C_alloc ?_ _) | (with_reducible refine Kd.C_drewN ?_ _) | (with_reducible refine Kd.C_drew ?_) | exact HR1335_5.out)) | (with_reducible refine Kd.C_alloc ?_ _) | (with_reducible refine Kd.C_drewN ?_ _) | (with_reducible refine Kd.C_drew ?_))); (case side4 => exact HC1335_5.out); rintro e w24 ⟨v1337, rfl, ho0, hb⟩; refine ⟨_, rfl, ?_⟩; have HO1338 := Aside0.mk (Kd.S_lower (Kd.S_new' (Kd.S_new' (Kd.S_new' (Kd.S_new' ho0 (Kd.S_lt (kS_q HO_3))) (Kd.S_lt (kS_q HO_4))) (Kd.S_lt (kS_q HO_5))) (Kd.R_lt (kR_q HL1335_5))) (below_size (bw_q HB))); replace HO_3 := Aside0.mk (Kd.S_elder' (kS_q HO_3) (Kd.S_base ho0) hb); replace HO_4 := Aside0.mk (Kd.S_elder' (kS_q HO_4) (Kd.S_base ho0) hb); replace HO_5 := Aside0.mk (Kd.S_elder' (kS_q HO_5) (Kd.S_base ho0) hb); replace HL1335_5 := Aside0.mk (Kd.R_below (kR_q HL1335_5) hb); replace HR1335_5 := Aside0.mk (Kd.C_below (by repeat (first | (with_reducible exact HR1335_5.out) | (with_reducible refine Kd.C_alloc ?_ _) | (with_reducible refine Kd.C_drewN ?_ _) | (with_reducible refine Kd.C_drew ?_) | exact HR1335_5.out)) hb); replace HB := Aside0.mk (below_step (bw_q HB) hb); (try clear hb); (try clear hb2); (try clear hk); (try clear hi); (try clear ho0)))
       replace HO_3 := Aside0.mk (Kd.S_drew HO_3.out)
       replace HO_4 := Aside0.mk (Kd.S_drew HO_4.out)
       replace HO_5 := Aside0.mk (Kd.S_drew HO_5.out)
       replace HL1335_5 := Aside0.mk (Kd.R_drew HL1335_5.out)
       replace HO1338 := Aside0.mk (Kd.S_drew HO1338.out)
       replace HR1335_5 := Aside0.mk (Kd.C_drew HR1335_5.out)
       replace HB := Aside0.mk (below_drew1 HB.out)
       have p1340 : 0 ≤ (x6_1 : Int) := of_decide_eq_true as_q
       have q1340 : x6_1 < (t1326.length : Int) := of_decide_eq_true as_q
       obtain ⟨ad1340, A1340_5, c1340_5, e1340, hx1340_0, hx1340_1, hx1340_2, hx1340_3, hx1340_4, hx1340_5, hx1340_6, hx1340_7, hl1340_5, hi1340_5⟩ := at_T61 (Kd.S_reads' HO_3.out).2.2 x6_1 p1340 q1340
       obtain rfl : ad1335 = ad1340 := (by injection e1340)
       obtain ⟨ce1340, hce1340, hMe1340, hcc1340⟩ := Kd.S_get HO_3.out z61 x6_1 p1340 (by first | exact q1340 | exact of_decide_eq_true as_q | (have e_ := (Kd.S_reads' HO_3.out).1; omega))
       obtain ⟨ve1340_5, rfl, ge1340_5⟩ := k61_openM hMe1340
       have hv1340_5 := hcc1340 5 _ rfl
       rw [add_field _ _ 5 (by omega)] at hv1340_5
       replace hv1340_5 := Option.some.inj (hv1340_5.symm.trans hx1340_5)
       rw [hv1340_5] at ge1340_5
       have HL1340_5 := Aside0.mk (show Kd.R k127 127 _ _ _ _ ((rd_T61 t1326 x6_1).f5) from ge1340_5)
       clear hv1340_5 ge1340_5
       clear hcc1340 hce1340
       have HR1340_5 := Aside0.mk hi1340_5
       have HC1340_5 := Aside0.mk hl1340_5
       clear hi1340_5 hl1340_5
       replace p1340 := eq_true p1340
       replace q1340 := eq_true q1340
       have p1342 : 0 ≤ (x6_1 : Int) := of_decide_eq_true as_q
       have q1342 : x6_1 < (t1326.length : Int) := of_decide_eq_true as_q
       obtain ⟨ad1342, A1342_5, c1342_5, e1342, hx1342_0, hx1342_1, hx1342_2, hx1342_3, hx1342_4, hx1342_5, hx1342_6, hx1342_7, hl1342_5, hi1342_5⟩ := at_T61 (Kd.S_reads' HO_3.out).2.2 x6_1 p1342 q1342
       obtain rfl : ad1335 = ad1342 := (by injection e1342)
       obtain ⟨ce1342, hce1342, hMe1342, hcc1342⟩ := Kd.S_get HO_3.out z61 x6_1 p1342 (by first | exact q1342 | exact of_decide_eq_true as_q | (have e_ := (Kd.S_reads' HO_3.out).1; omega))
       obtain ⟨ve1342_5, rfl, ge1342_5⟩ := k61_openM hMe1342
       have hv1342_5 := hcc1342 5 _ rfl
       rw [add_field _ _ 5 (by omega)] at hv1342_5
       replace hv1342_5 := Option.some.inj (hv1342_5.symm.trans hx1342_5)
       rw [hv1342_5] at ge1342_5
       have HL1342_5 := Aside0.mk (show Kd.R k127 127 _ _ _ _ ((rd_T61 t1326 x6_1).f5) from ge1342_5)
       clear hv1342_5 ge1342_5
       clear hcc1342 hce1342
       have HR1342_5 := Aside0.mk hi1342_5
       have HC1342_5 := Aside0.mk hl1342_5
       clear hi1342_5 hl1342_5
       replace p1342 := eq_true p1342
       replace q1342 := eq_true q1342
       have ea_ := Option.some.inj (hx1340_5.symm.trans hx1342_5)
       injection ea_ with ea_ en_ ec_
       subst ea_
       subst ec_
       clear en_
       refine start_ (n := 14) (S := fun w' => w'.cell? (ad1335.add ((x6_1).toNat * 8)) = some (.int .i64 ((rd_T61 t1326 x6_1).f0)) ∧ w'.cell? ⟨(ad1335.add ((x6_1).toNat * 8)).block, (ad1335.add ((x6_1).toNat * 8)).off + 1, none⟩ = some (.int .i64 ((rd_T61 t1326 x6_1).f1)) ∧ w'.cell? ⟨(ad1335.add ((x6_1).toNat * 8)).block, (ad1335.add ((x6_1).toNat * 8)).off + 2, none⟩ = some (.int .i64 ((rd_T61 t1326 x6_1).f2)) ∧ w'.cell? ⟨(ad1335.add ((x6_1).toNat * 8)).block, (ad1335.add ((x6_1).toNat * 8)).off + 3, none⟩ = some (.int .i64 ((rd_T61 t1326 x6_1).f3)) ∧ w'.cell? ⟨(ad1335.add ((x6_1).toNat * 8)).block, (ad1335.add ((x6_1).toNat * 8)).off + 4, none⟩ = some (.int .i64 ((rd_T61 t1326 x6_1).f4)) ∧ w'.cell? ⟨(ad1335.add ((x6_1).toNat * 8)).block, (ad1335.add ((x6_1).toNat * 8)).off + 5, none⟩ = some (.slice A1340_5 ((rd_T61 t1326 x6_1).f5).length c1340_5) ∧ w'.cell? ⟨(ad1335.add ((x6_1).toNat * 8)).block, (ad1335.add ((x6_1).toNat * 8)).off + 6, none⟩ = some (.int .i64 ((rd_T61 t1326 x6_1).f6)) ∧ w'.cell? ⟨(ad1335.add ((x6_1).toNat * 8)).block, (ad1335.add ((x6_1).toNat * 8)).off + 7, none⟩ = some (.bool ((rd_T61 t1326 x6_1).f7))) (ds := []) (bL 14 0) (by kernel_rfl) rfl rfl ⟨hx1340_0, hx1340_1, hx1340_2, hx1340_3, hx1340_4, hx1340_5, hx1340_6, hx1340_7⟩ (fun hHeld => ?_); refine with_tabW laws_FnStores.tab10 laws_FnStores.bits10 (fun HT_ HW_ => ?_)
       generalize w24.drew = w25 at HO_3 HO_4 HO_5 HL1335_5 HO1338 HR1335_5 HB HL1340_5 HL1342_5 HR1340_5 HR1342_5 hx1340_0 hx1340_1 hx1340_2 hx1340_3 hx1340_4 hx1340_5 hx1340_6 hx1340_7 hx1342_0 hx1342_1 hx1342_2 hx1342_3 hx1342_4 hx1342_5 hx1342_6 hx1342_7 hHeld ⊢
       refine pq_ 0 34 (bL 14 1) HT_.out rfl rfl ?_
       refine pq_ 1 35 (bL 14 3) HT_.out rfl rfl ?_
       refine pq_ 2 36 (bL 14 7) HT_.out rfl rfl ?_
       refine pq_ 3 37 (bL 14 15) HT_.out rfl rfl ?_
       refine pq_ 4 38 (bL 14 31) HT_.out rfl rfl ?_
       refine pq_ 7 41 (bL 14 159) HT_.out rfl rfl ?_
       refine pq_ 8 42 (bL 14 415) HT_.out rfl rfl ?_
       refine pq_ 9 43 (bL 14 927) HT_.out rfl rfl ?_
       refine pq_ 10 44 (bL 14 1951) HT_.out rfl rfl ?_
       refine take_ (i := 5) (N := some 39) (v := ?_) (a' := ?_) (bL 14 1983) rfl rfl (take_ofW HT_.out HW_.out (by kernel_rfl)) (fun _ _ _ h => h) (Or.inl ⟨by rfl, ?_⟩) hHeld ?_ ?_; rotate_left; (rintro w' ⟨s0, s1, s2, s3, s4, s5, s6, s7⟩; go_simp; with_reducible rfl); rotate_left; (exact put_q)
       refine take_ (i := 11) (N := some 45) (v := ?_) (a' := ?_) (bL 14 4031) rfl rfl (take_ofW HT_.out HW_.out (by kernel_rfl)) (fun _ _ _ h => h) (Or.inl ⟨by rfl, ?_⟩) hHeld ?_ ?_; rotate_left; (rintro w' ⟨s0, s1, s2, s3, s4, s5, s6, s7⟩; go_simp; with_reducible rfl); rotate_left; (exact put_q)
       refine one_ (i := 6) (N := some 40) (bL 14 4095) rfl rfl (one_of HT_.out (by kernel_rfl)) (by decide) (fun K hK => ?_)
       refine goes_ Try.func49 (by kernel_rfl) rfl #[.slice Ao23 x4_1.length co23, .agg #[.int .i64 ((rd_T61 t1326 x6_1).f0), .int .i64 ((rd_T61 t1326 x6_1).f1), .int .i64 ((rd_T61 t1326 x6_1).f2), .int .i64 ((rd_T61 t1326 x6_1).f3), .int .i64 ((rd_T61 t1326 x6_1).f4), .slice A1340_5 ((rd_T61 t1326 x6_1).f5).length c1340_5, .int .i64 ((rd_T61 t1326 x6_1).f6), .bool ((rd_T61 t1326 x6_1).f7)]] (by rfl) rfl rfl mp_q ?_
       with_reducible refine (laws_newest.calls k1 _ _ x4_1 ((rd_T61 t1326 x6_1).f0) ((rd_T61 t1326 x6_1).f1) ((rd_T61 t1326 x6_1).f2) ((rd_T61 t1326 x6_1).f3) ((rd_T61 t1326 x6_1).f4) _ _ ((rd_T61 t1326 x6_1).f5) ((rd_T61 t1326 x6_1).f6) ((rd_T61 t1326 x6_1).f7) t1341 _ ?side1 ?side2 ?side3 ?side4 A14.out).mono ?_
       (case side1 => repeat (first | exact (Kd.S_reads' HO_4.out).2.2 | (with_reducible refine Kd.C_alloc ?_ _) | (with_reducible refine Kd.C_drewN ?_ _) | (with_reducible refine Kd.C_drew ?_)))
       (case side2 => exact (Kd.S_reads' HO_4.out).2.1)
       (case side3 => repeat (first | exact (by repeat (first | (with_reducible exact HR1340_5.out) | (with_reducible refine Kd.C_alloc ?_ _) | (with_reducible refine Kd.C_drewN ?_ _) | (with_reducible refine Kd.C_drew ?_) | exact HR1340_5.out)) | (with_reducible refine Kd.C_alloc ?_ _) | (with_reducible refine Kd.C_drewN ?_ _) | (with_reducible refine Kd.C_drew ?_)))
       (case side4 => exact HC1340_5.out)
       rintro e w26 ⟨rfl, hb⟩
       have HS0_ := (hb.cell (World.block_lt_of_cell? _ _ (hHeld.1))).trans (hHeld.1)
       have HS1_ := (hb.cell (World.block_lt_of_cell? _ _ (hHeld.2.1))).trans (hHeld.2.1)
       have HS2_ := (hb.cell (World.block_lt_of_cell? _ _ (hHeld.2.2.1))).trans (hHeld.2.2.1)
       have HS3_ := (hb.cell (World.block_lt_of_cell? _ _ (hHeld.2.2.2.1))).trans (hHeld.2.2.2.1)
       have HS4_ := (hb.cell (World.block_lt_of_cell? _ _ (hHeld.2.2.2.2.1))).trans (hHeld.2.2.2.2.1)
       have HS5_ := (hb.cell (World.block_lt_of_cell? _ _ (hHeld.2.2.2.2.2.1))).trans (hHeld.2.2.2.2.2.1)
       have HS6_ := (hb.cell (World.block_lt_of_cell? _ _ (hHeld.2.2.2.2.2.2.1))).trans (hHeld.2.2.2.2.2.2.1)
       have HS7_ := (hb.cell (World.block_lt_of_cell? _ _ (hHeld.2.2.2.2.2.2.2))).trans (hHeld.2.2.2.2.2.2.2)
       refine ⟨_, rfl, ?_⟩
       replace HO_3 := Aside0.mk (Kd.S_below (kS_q HO_3) hb)
       replace HO_4 := Aside0.mk (Kd.S_below (kS_q HO_4) hb)
       replace HO_5 := Aside0.mk (Kd.S_below (kS_q HO_5) hb)
       replace HL1335_5 := Aside0.mk (Kd.R_below (kR_q HL1335_5) hb)
       replace HO1338 := Aside0.mk (Kd.S_below (kS_q HO1338) hb)
       replace HL1340_5 := Aside0.mk (Kd.R_below (kR_q HL1340_5) hb)
       replace HL1342_5 := Aside0.mk (Kd.R_below (kR_q HL1342_5) hb)
       replace HR1335_5 := Aside0.mk (Kd.C_below (by repeat (first | (with_reducible exact HR1335_5.out) | (with_reducible refine Kd.C_alloc ?_ _) | (with_reducible refine Kd.C_drewN ?_ _) | (with_reducible refine Kd.C_drew ?_) | exact HR1335_5.out)) hb)
       replace HR1340_5 := Aside0.mk (Kd.C_below (by repeat (first | (with_reducible exact HR1340_5.out) | (with_reducible refine Kd.C_alloc ?_ _) | (with_reducible refine Kd.C_drewN ?_ _) | (with_reducible refine Kd.C_drew ?_) | exact HR1340_5.out)) hb)
       replace HR1342_5 := Aside0.mk (Kd.C_below (by repeat (first | (with_reducible exact HR1342_5.out) | (with_reducible refine Kd.C_alloc ?_ _) | (with_reducible refine Kd.C_drewN ?_ _) | (with_reducible refine Kd.C_drew ?_) | exact HR1342_5.out)) hb)
       replace HB := Aside0.mk (below_step (bw_q HB) hb)
       (try clear hb)
       (try clear hb2)
       (try clear hk)
       (try clear hi)
       refine hK.out _ _ ⟨HS0_, HS1_, HS2_, HS3_, HS4_, HS5_, HS6_, HS7_⟩ (fun hHeld => ?_)
       clear hK K
       refine norm_ (a' := ?_) ?_ ?_; rotate_left; (show Act.put _ (some 40) _ = _; simp only [Act.put, List.setIfInBounds_toArray, List.set_cons_zero, List.set_cons_succ, i64_w, i32_w]; rfl)
       refine pq_ 12 46 (bL 14 8191) HT_.out rfl rfl ?_
       refine pq_ 13 47 (bL 14 16383) HT_.out rfl rfl ?_
       have H := HZ18.out
       clear HZ18
       by_cases c16 : t1339 = true
       ·subst c16
        have H1 : (if 0 ≤ (wrap64 ((wrap64 ((t1326.length : Int) - 1)) - x6_1)) then (if (wrap64 ((wrap64 ((t1326.length : Int) - 1)) - x6_1)) < (t1326.length : Int) then ((impl_Install.f k1 x5_1 ((rd_T61 t1326 (wrap64 ((wrap64 ((t1326.length : Int) - 1)) - x6_1))).f0) ((rd_T61 t1326 (wrap64 ((wrap64 ((t1326.length : Int) - 1)) - x6_1))).f1) ((rd_T61 t1326 (wrap64 ((wrap64 ((t1326.length : Int) - 1)) - x6_1))).f2) ((rd_T61 t1326 (wrap64 ((wrap64 ((t1326.length : Int) - 1)) - x6_1))).f3) ((rd_T61 t1326 (wrap64 ((wrap64 ((t1326.length : Int) - 1)) - x6_1))).f4) ((rd_T61 t1326 (wrap64 ((wrap64 ((t1326.length : Int) - 1)) - x6_1))).f5) ((rd_T61 t1326 (wrap64 ((wrap64 ((t1326.length : Int) - 1)) - x6_1))).f6) ((rd_T61 t1326 (wrap64 ((wrap64 ((t1326.length : Int) - 1)) - x6_1))).f7)).bind fun bt1344 => (if bt1344.2 = true then (laws_FnStores.l0 k1 t1326 t1336 bt1344.1 (wrap64 (x6_1 + 1))) else (laws_FnStores.l0 k1 t1326 t1336 x5_1 (wrap64 (x6_1 + 1))))) else (none)) else (none)) = some r := by rw [if_pos rfl] at H; exact H
        clear H
        have H := H1
        clear H1
        obtain ⟨ji17, hji17⟩ : ∃ j_ : Int, (wrap64 ((wrap64 ((t1326.length : Int) - 1)) - x6_1)) = j_ := ⟨_, rfl⟩
        replace H : (if 0 ≤ (ji17) then (if (ji17) < (t1326.length : Int) then ((impl_Install.f k1 x5_1 ((rd_T61 t1326 (ji17)).f0) ((rd_T61 t1326 (ji17)).f1) ((rd_T61 t1326 (ji17)).f2) ((rd_T61 t1326 (ji17)).f3) ((rd_T61 t1326 (ji17)).f4) ((rd_T61 t1326 (ji17)).f5) ((rd_T61 t1326 (ji17)).f6) ((rd_T61 t1326 (ji17)).f7)).bind fun bt1344 => (if bt1344.2 = true then (laws_FnStores.l0 k1 t1326 t1336 bt1344.1 (wrap64 (x6_1 + 1))) else (laws_FnStores.l0 k1 t1326 t1336 x5_1 (wrap64 (x6_1 + 1))))) else (none)) else (none)) = some r := by first | (rw [hji17] at H; exact H) | (simp only [hji17] at H ⊢; exact H)
        (try rw [hji17] at A13)
        (try rw [hji17] at A14)
        have hji17w : (IntKind.i64.wrap ((wrap64 ((t1326.length : Int) - 1)) - x6_1)) = ji17 := (i64_w _).trans hji17
        by_cases c18 : 0 ≤ (ji17)
        ·rw [if_pos c18] at H
         have c18b0 : decide (0 ≤ (ji17)) = true := decide_eq_true c18
         clear c18
         by_cases c19 : (ji17) < (t1326.length : Int)
         ·rw [if_pos c19] at H
          have c19b0 : decide ((ji17) < (t1326.length : Int)) = true := decide_eq_true c19
          clear c19
          replace H := Option.bind_eq_some_iff.mp H
          obtain ⟨⟨t1344, t1347⟩, A200, H⟩ := H
          replace H : (if t1347 = true then (laws_FnStores.l0 k1 t1326 t1336 t1344 (wrap64 (x6_1 + 1))) else (laws_FnStores.l0 k1 t1326 t1336 x5_1 (wrap64 (x6_1 + 1)))) = some r := H
          have A20 := Aside0.mk A200
          clear A200
          by_cases c21 : t1347 = true
          ·subst c21
           have H1 : (laws_FnStores.l0 k1 t1326 t1336 t1344 (wrap64 (x6_1 + 1))) = some r := by rw [if_pos rfl] at H; exact H
           clear H
           have H := H1
           clear H1
           have H' := Aside0.mk H
           clear H
           refine done_ (done_of HT_.out (by kernel_rfl)) ?_
           have p1343 : 0 ≤ ((ji17) : Int) := of_decide_eq_true as_q
           have q1343 : (ji17) < (t1326.length : Int) := of_decide_eq_true as_q
           obtain ⟨ad1343, A1343_5, c1343_5, e1343, hx1343_0, hx1343_1, hx1343_2, hx1343_3, hx1343_4, hx1343_5, hx1343_6, hx1343_7, hl1343_5, hi1343_5⟩ := at_T61 (Kd.S_reads' HO_3.out).2.2 (ji17) p1343 q1343
           obtain rfl : ad1335 = ad1343 := (by injection e1343)
           obtain ⟨ce1343, hce1343, hMe1343, hcc1343⟩ := Kd.S_get HO_3.out z61 (ji17) p1343 (by first | exact q1343 | exact of_decide_eq_true as_q | (have e_ := (Kd.S_reads' HO_3.out).1; omega))
           obtain ⟨ve1343_5, rfl, ge1343_5⟩ := k61_openM hMe1343
           have hv1343_5 := hcc1343 5 _ rfl
           rw [add_field _ _ 5 (by omega)] at hv1343_5
           replace hv1343_5 := Option.some.inj (hv1343_5.symm.trans hx1343_5)
           rw [hv1343_5] at ge1343_5
           have HL1343_5 := Aside0.mk (show Kd.R k127 127 _ _ _ _ ((rd_T61 t1326 (ji17)).f5) from ge1343_5)
           clear hv1343_5 ge1343_5
           clear hcc1343 hce1343
           have HR1343_5 := Aside0.mk hi1343_5
           have HC1343_5 := Aside0.mk hl1343_5
           clear hi1343_5 hl1343_5
           replace p1343 := eq_true p1343
           replace q1343 := eq_true q1343
           obtain ⟨Ao27, co27, eo27⟩ := Kd.S_slice HO_5.out
           subst eo27
           try go_wp2_with (first | ((with_reducible refine gate_callee (f := 42) rfl ?_); refine goesL_ (some 60) rfl rfl Try.func42 (by kernel_rfl) rfl #[.slice Ao27 x5_1.length co27, .agg #[.int .i64 ((rd_T61 t1326 (ji17)).f0), .int .i64 ((rd_T61 t1326 (ji17)).f1), .int .i64 ((rd_T61 t1326 (ji17)).f2), .int .i64 ((rd_T61 t1326 (ji17)).f3), .int .i64 ((rd_T61 t1326 (ji17)).f4), .slice A1343_5 ((rd_T61 t1326 (ji17)).f5).length c1343_5, .int .i64 ((rd_T61 t1326 (ji17)).f6), .bool ((rd_T61 t1326 (ji17)).f7)]] rfl (by (try simp only [List.map_toArray, List.map_cons, List.map_nil]); first | done | (simp only [hji17]; rfl) | rfl | (simp only [List.length_drop, List.length_take]; rfl)) ?_; (with_reducible refine (impl_Install.calls k1 _ _ x5_1 ((rd_T61 t1326 (ji17)).f0) ((rd_T61 t1326 (ji17)).f1) ((rd_T61 t1326 (ji17)).f2) ((rd_T61 t1326 (ji17)).f3) ((rd_T61 t1326 (ji17)).f4) _ _ ((rd_T61 t1326 (ji17)).f5) ((rd_T61 t1326 (ji17)).f6) ((rd_T61 t1326 (ji17)).f7) t1344 true _ ?side1 ?side2 ?side3 ?side4 A20.out).mono ?_); (case side1 => repeat (first | exact (Kd.S_reads' HO_5.out).2.2 | (with_reducible refine Kd.C_alloc ?_ _) | (with_reducible refine Kd.C_drewN ?_ _) | (with_reducible refine Kd.C_drew ?_))); (case side2 => exact (Kd.S_reads' HO_5.out).2.1); (case side3 => repeat (first | exact (by repeat (first | (with_reducible exact HR1343_5.out) | (with_reducible refine Kd.C_alloc ?_ _) | (with_reducible refine Kd.C_drewN ?_ _) | (with_reducible refine Kd.C_drew ?_) | exact HR1343_5.out)) | (with_reducible refine Kd.C_alloc ?_ _) | (with_reducible refine Kd.C_drewN ?_ _) | (with_reducible refine Kd.C_drew ?_))); (case side4 => exact HC1343_5.out); rintro e w28 ⟨v1345, rfl, ho0, hb⟩; refine ⟨_, rfl, ?_⟩; have HO1346 := Aside0.mk (Kd.S_lower (Kd.S_new' (Kd.S_new' (Kd.S_new' (Kd.S_new' (Kd.S_new' (Kd.S_new' (Kd.S_new' (Kd.S_new' ho0 (Kd.S_lt (kS_q HO_3))) (Kd.S_lt (kS_q HO_4))) (Kd.S_lt (kS_q HO_5))) (Kd.R_lt (kR_q HL1335_5))) (Kd.S_lt (kS_q HO1338))) (Kd.R_lt (kR_q HL1340_5))) (Kd.R_lt (kR_q HL1342_5))) (Kd.R_lt (kR_q HL1343_5))) (below_size (bw_q HB))); replace HO_3 := Aside0.mk (Kd.S_elder' (kS_q HO_3) (Kd.S_base ho0) hb); replace HO_4 := Aside0.mk (Kd.S_elder' (kS_q HO_4) (Kd.S_base ho0) hb); replace HO_5 := Aside0.mk (Kd.S_elder' (kS_q HO_5) (Kd.S_base ho0) hb); replace HL1335_5 := Aside0.mk (Kd.R_below (kR_q HL1335_5) hb); replace HO1338 := Aside0.mk (Kd.S_elder' (kS_q HO1338) (Kd.S_base ho0) hb); replace HL1340_5 := Aside0.mk (Kd.R_below (kR_q HL1340_5) hb); replace HL1342_5 := Aside0.mk (Kd.R_below (kR_q HL1342_5) hb); replace HL1343_5 := Aside0.mk (Kd.R_below (kR_q HL1343_5) hb); replace HR1335_5 := Aside0.mk (Kd.C_below (by repeat (first | (with_reducible exact HR1335_5.out) | (with_reducible refine Kd.C_alloc ?_ _) | (with_reducible refine Kd.C_drewN ?_ _) | (with_reducible refine Kd.C_drew ?_) | exact HR1335_5.out)) hb); replace HR1340_5 := Aside0.mk (Kd.C_below (by repeat (first | (with_reducible exact HR1340_5.out) | (with_reducible refine Kd.C_alloc ?_ _) | (with_reducible refine Kd.C_drewN ?_ _) | (with_reducible refine Kd.C_drew ?_) | exact HR1340_5.out)) hb); replace HR1342_5 := Aside0.mk (Kd.C_below (by repeat (first | (with_reducible exact HR1342_5.out) | (with_reducible refine Kd.C_alloc ?_ _) | (with_reducible refine Kd.C_drewN ?_ _) | (with_reducible refine Kd.C_drew ?_) | exact HR1342_5.out)) hb); replace HR1343_5 := Aside0.mk (Kd.C_below (by repeat (first | (with_reducible exact HR1343_5.out) | (with_reducible refine Kd.C_alloc ?_ _) | (with_reducible refine Kd.C_drewN ?_ _) | (with_reducible refine Kd.C_drew ?_) | exact HR1343_5.out)) hb); replace HB := Aside0.mk (below_step (bw_q HB) hb); (try clear hb); (try clear hb2); (try clear hk); (try clear hi); (try clear ho0)))
           go_roundg k1
           case measure => have := HK1.out; omega
           case rel => exact ⟨(t1336), (t1344), (wrap64 (x6_1 + 1)), (by first | rfl | (simp; done) | (simp [*]; done)), H', ⟨by have := HK1.out; omega⟩, ⟨by (with_reducible repeat (first | apply Kd.S_alloc | apply Kd.S_drewN | apply Kd.S_drew)); exact Kd.S_mono HO_3.out (fun _ hk => ⟨hk.1.2, hk.2⟩)⟩, ⟨by (with_reducible repeat (first | apply Kd.S_alloc | apply Kd.S_drewN | apply Kd.S_drew)); exact Kd.S_mono HO1338.out (fun _ hk => ⟨hk.1.1.1.1.2, hk.2⟩)⟩, ⟨by (with_reducible repeat (first | apply Kd.S_alloc | apply Kd.S_drewN | apply Kd.S_drew)); exact Kd.S_mono HO1346.out (fun _ hk => ⟨hk.1.1.1.1.1.1.1.2, hk.1.1.1.2⟩)⟩, ⟨bw_q HB⟩⟩
          ·replace c21 := Bool.eq_false_iff.mpr c21
           subst c21
           have H1 : (laws_FnStores.l0 k1 t1326 t1336 x5_1 (wrap64 (x6_1 + 1))) = some r := by rw [if_neg (show ¬ (false = true) by decide)] at H; exact H
           clear H
           have H := H1
           clear H1
           have H' := Aside0.mk H
           clear H
           refine done_ (done_of HT_.out (by kernel_rfl)) ?_
           have p1343 : 0 ≤ ((ji17) : Int) := of_decide_eq_true as_q
           have q1343 : (ji17) < (t1326.length : Int) := of_decide_eq_true as_q
           obtain ⟨ad1343, A1343_5, c1343_5, e1343, hx1343_0, hx1343_1, hx1343_2, hx1343_3, hx1343_4, hx1343_5, hx1343_6, hx1343_7, hl1343_5, hi1343_5⟩ := at_T61 (Kd.S_reads' HO_3.out).2.2 (ji17) p1343 q1343
           obtain rfl : ad1335 = ad1343 := (by injection e1343)
           obtain ⟨ce1343, hce1343, hMe1343, hcc1343⟩ := Kd.S_get HO_3.out z61 (ji17) p1343 (by first | exact q1343 | exact of_decide_eq_true as_q | (have e_ := (Kd.S_reads' HO_3.out).1; omega))
           obtain ⟨ve1343_5, rfl, ge1343_5⟩ := k61_openM hMe1343
           have hv1343_5 := hcc1343 5 _ rfl
           rw [add_field _ _ 5 (by omega)] at hv1343_5
           replace hv1343_5 := Option.some.inj (hv1343_5.symm.trans hx1343_5)
           rw [hv1343_5] at ge1343_5
           have HL1343_5 := Aside0.mk (show Kd.R k127 127 _ _ _ _ ((rd_T61 t1326 (ji17)).f5) from ge1343_5)
           clear hv1343_5 ge1343_5
           clear hcc1343 hce1343
           have HR1343_5 := Aside0.mk hi1343_5
           have HC1343_5 := Aside0.mk hl1343_5
           clear hi1343_5 hl1343_5
           replace p1343 := eq_true p1343
           replace q1343 := eq_true q1343
           obtain ⟨Ao34, co34, eo34⟩ := Kd.S_slice HO_5.out
           subst eo34
           try go_wp2_with (first | ((with_reducible refine gate_callee (f := 42) rfl ?_); refine goesL_ (some 60) rfl rfl Try.func42 (by kernel_rfl) rfl #[.slice Ao34 x5_1.length co34, .agg #[.int .i64 ((rd_T61 t1326 (ji17)).f0), .int .i64 ((rd_T61 t1326 (ji17)).f1), .int .i64 ((rd_T61 t1326 (ji17)).f2), .int .i64 ((rd_T61 t1326 (ji17)).f3), .int .i64 ((rd_T61 t1326 (ji17)).f4), .slice A1343_5 ((rd_T61 t1326 (ji17)).f5).length c1343_5, .int .i64 ((rd_T61 t1326 (ji17)).f6), .bool ((rd_T61 t1326 (ji17)).f7)]] rfl (by (try simp only [List.map_toArray, List.map_cons, List.map_nil]); first | done | (simp only [hji17]; rfl) | rfl | (simp only [List.length_drop, List.length_take]; rfl)) ?_; (with_reducible refine (impl_Install.calls k1 _ _ x5_1 ((rd_T61 t1326 (ji17)).f0) ((rd_T61 t1326 (ji17)).f1) ((rd_T61 t1326 (ji17)).f2) ((rd_T61 t1326 (ji17)).f3) ((rd_T61 t1326 (ji17)).f4) _ _ ((rd_T61 t1326 (ji17)).f5) ((rd_T61 t1326 (ji17)).f6) ((rd_T61 t1326 (ji17)).f7) t1344 false _ ?side1 ?side2 ?side3 ?side4 A20.out).mono ?_); (case side1 => repeat (first | exact (Kd.S_reads' HO_5.out).2.2 | (with_reducible refine Kd.C_alloc ?_ _) | (with_reducible refine Kd.C_drewN ?_ _) | (with_reducible refine Kd.C_drew ?_))); (case side2 => exact (Kd.S_reads' HO_5.out).2.1); (case side3 => repeat (first | exact (by repeat (first | (with_reducible exact HR1343_5.out) | (with_reducible refine Kd.C_alloc ?_ _) | (with_reducible refine Kd.C_drewN ?_ _) | (with_reducible refine Kd.C_drew ?_) | exact HR1343_5.out)) | (with_reducible refine Kd.C_alloc ?_ _) | (with_reducible refine Kd.C_drewN ?_ _) | (with_reducible refine Kd.C_drew ?_))); (case side4 => exact HC1343_5.out); rintro e w35 ⟨v1345, rfl, ho0, hb⟩; refine ⟨_, rfl, ?_⟩; have HO1346 := Aside0.mk (Kd.S_lower (Kd.S_new' (Kd.S_new' (Kd.S_new' (Kd.S_new' (Kd.S_new' (Kd.S_new' (Kd.S_new' (Kd.S_new' ho0 (Kd.S_lt (kS_q HO_3))) (Kd.S_lt (kS_q HO_4))) (Kd.S_lt (kS_q HO_5))) (Kd.R_lt (kR_q HL1335_5))) (Kd.S_lt (kS_q HO1338))) (Kd.R_lt (kR_q HL1340_5))) (Kd.R_lt (kR_q HL1342_5))) (Kd.R_lt (kR_q HL1343_5))) (below_size (bw_q HB))); replace HO_3 := Aside0.mk (Kd.S_elder' (kS_q HO_3) (Kd.S_base ho0) hb); replace HO_4 := Aside0.mk (Kd.S_elder' (kS_q HO_4) (Kd.S_base ho0) hb); replace HO_5 := Aside0.mk (Kd.S_elder' (kS_q HO_5) (Kd.S_base ho0) hb); replace HL1335_5 := Aside0.mk (Kd.R_below (kR_q HL1335_5) hb); replace HO1338 := Aside0.mk (Kd.S_elder' (kS_q HO1338) (Kd.S_base ho0) hb); replace HL1340_5 := Aside0.mk (Kd.R_below (kR_q HL1340_5) hb); replace HL1342_5 := Aside0.mk (Kd.R_below (kR_q HL1342_5) hb); replace HL1343_5 := Aside0.mk (Kd.R_below (kR_q HL1343_5) hb); replace HR1335_5 := Aside0.mk (Kd.C_below (by repeat (first | (with_reducible exact HR1335_5.out) | (with_reducible refine Kd.C_alloc ?_ _) | (with_reducible refine Kd.C_drewN ?_ _) | (with_reducible refine Kd.C_drew ?_) | exact HR1335_5.out)) hb); replace HR1340_5 := Aside0.mk (Kd.C_below (by repeat (first | (with_reducible exact HR1340_5.out) | (with_reducible refine Kd.C_alloc ?_ _) | (with_reducible refine Kd.C_drewN ?_ _) | (with_reducible refine Kd.C_drew ?_) | exact HR1340_5.out)) hb); replace HR1342_5 := Aside0.mk (Kd.C_below (by repeat (first | (with_reducible exact HR1342_5.out) | (with_reducible refine Kd.C_alloc ?_ _) | (with_reducible refine Kd.C_drewN ?_ _) | (with_reducible refine Kd.C_drew ?_) | exact HR1342_5.out)) hb); replace HR1343_5 := Aside0.mk (Kd.C_below (by repeat (first | (with_reducible exact HR1343_5.out) | (with_reducible refine Kd.C_alloc ?_ _) | (with_reducible refine Kd.C_drewN ?_ _) | (with_reducible refine Kd.C_drew ?_) | exact HR1343_5.out)) hb); replace HB := Aside0.mk (below_step (bw_q HB) hb); (try clear hb); (try clear hb2); (try clear hk); (try clear hi); (try clear ho0)))
           go_roundg k1
           case measure => have := HK1.out; omega
           case rel => exact ⟨(t1336), (x5_1), (wrap64 (x6_1 + 1)), (by first | rfl | (simp; done) | (simp [*]; done)), H', ⟨by have := HK1.out; omega⟩, ⟨by (with_reducible repeat (first | apply Kd.S_alloc | apply Kd.S_drewN | apply Kd.S_drew)); exact Kd.S_mono HO_3.out (fun _ hk => ⟨hk.1.2, hk.1.1.2⟩)⟩, ⟨by (with_reducible repeat (first | apply Kd.S_alloc | apply Kd.S_drewN | apply Kd.S_drew)); exact Kd.S_mono HO1338.out (fun _ hk => ⟨hk.1.1.1.1.2, hk.1.1.2⟩)⟩, ⟨by (with_reducible repeat (first | apply Kd.S_alloc | apply Kd.S_drewN | apply Kd.S_drew)); exact Kd.S_mono HO_5.out (fun _ hk => ⟨hk.1.1.1, hk.1.2⟩)⟩, ⟨bw_q HB⟩⟩
         ·rw [if_neg c19] at H
          exact absurd H (by simp)
        ·rw [if_neg c18] at H
         exact absurd H (by simp)
       ·replace c16 := Bool.eq_false_iff.mpr c16
        subst c16
        have H1 : (if 0 ≤ (wrap64 ((wrap64 ((t1326.length : Int) - 1)) - x6_1)) then (if (wrap64 ((wrap64 ((t1326.length : Int) - 1)) - x6_1)) < (t1326.length : Int) then ((impl_Install.f k1 x5_1 ((rd_T61 t1326 (wrap64 ((wrap64 ((t1326.length : Int) - 1)) - x6_1))).f0) ((rd_T61 t1326 (wrap64 ((wrap64 ((t1326.length : Int) - 1)) - x6_1))).f1) ((rd_T61 t1326 (wrap64 ((wrap64 ((t1326.length : Int) - 1)) - x6_1))).f2) ((rd_T61 t1326 (wrap64 ((wrap64 ((t1326.length : Int) - 1)) - x6_1))).f3) ((rd_T61 t1326 (wrap64 ((wrap64 ((t1326.length : Int) - 1)) - x6_1))).f4) ((rd_T61 t1326 (wrap64 ((wrap64 ((t1326.length : Int) - 1)) - x6_1))).f5) ((rd_T61 t1326 (wrap64 ((wrap64 ((t1326.length : Int) - 1)) - x6_1))).f6) ((rd_T61 t1326 (wrap64 ((wrap64 ((t1326.length : Int) - 1)) - x6_1))).f7)).bind fun bt1349 => (if bt1349.2 = true then (laws_FnStores.l0 k1 t1326 x4_1 bt1349.1 (wrap64 (x6_1 + 1))) else (laws_FnStores.l0 k1 t1326 x4_1 x5_1 (wrap64 (x6_1 + 1))))) else (none)) else (none)) = some r := by rw [if_neg (show ¬ (false = true) by decide)] at H; exact H
        clear H
        have H := H1
        clear H1
        obtain ⟨ji36, hji36⟩ : ∃ j_ : Int, (wrap64 ((wrap64 ((t1326.length : Int) - 1)) - x6_1)) = j_ := ⟨_, rfl⟩
        replace H : (if 0 ≤ (ji36) then (if (ji36) < (t1326.length : Int) then ((impl_Install.f k1 x5_1 ((rd_T61 t1326 (ji36)).f0) ((rd_T61 t1326 (ji36)).f1) ((rd_T61 t1326 (ji36)).f2) ((rd_T61 t1326 (ji36)).f3) ((rd_T61 t1326 (ji36)).f4) ((rd_T61 t1326 (ji36)).f5) ((rd_T61 t1326 (ji36)).f6) ((rd_T61 t1326 (ji36)).f7)).bind fun bt1349 => (if bt1349.2 = true then (laws_FnStores.l0 k1 t1326 x4_1 bt1349.1 (wrap64 (x6_1 + 1))) else (laws_FnStores.l0 k1 t1326 x4_1 x5_1 (wrap64 (x6_1 + 1))))) else (none)) else (none)) = some r := by first | (rw [hji36] at H; exact H) | (simp only [hji36] at H ⊢; exact H)
        (try rw [hji36] at A13)
        (try rw [hji36] at A14)
        have hji36w : (IntKind.i64.wrap ((wrap64 ((t1326.length : Int) - 1)) - x6_1)) = ji36 := (i64_w _).trans hji36
        by_cases c37 : 0 ≤ (ji36)
        ·rw [if_pos c37] at H
         have c37b0 : decide (0 ≤ (ji36)) = true := decide_eq_true c37
         clear c37
         by_cases c38 : (ji36) < (t1326.length : Int)
         ·rw [if_pos c38] at H
          have c38b0 : decide ((ji36) < (t1326.length : Int)) = true := decide_eq_true c38
          clear c38
          replace H := Option.bind_eq_some_iff.mp H
          obtain ⟨⟨t1349, t1352⟩, A390, H⟩ := H
          replace H : (if t1352 = true then (laws_FnStores.l0 k1 t1326 x4_1 t1349 (wrap64 (x6_1 + 1))) else (laws_FnStores.l0 k1 t1326 x4_1 x5_1 (wrap64 (x6_1 + 1)))) = some r := H
          have A39 := Aside0.mk A390
          clear A390
          by_cases c40 : t1352 = true
          ·subst c40
           have H1 : (laws_FnStores.l0 k1 t1326 x4_1 t1349 (wrap64 (x6_1 + 1))) = some r := by rw [if_pos rfl] at H; exact H
           clear H
           have H := H1
           clear H1
           have H' := Aside0.mk H
           clear H
           refine done_ (done_of HT_.out (by kernel_rfl)) ?_
           have p1348 : 0 ≤ ((ji36) : Int) := of_decide_eq_true as_q
           have q1348 : (ji36) < (t1326.length : Int) := of_decide_eq_true as_q
           obtain ⟨ad1348, A1348_5, c1348_5, e1348, hx1348_0, hx1348_1, hx1348_2, hx1348_3, hx1348_4, hx1348_5, hx1348_6, hx1348_7, hl1348_5, hi1348_5⟩ := at_T61 (Kd.S_reads' HO_3.out).2.2 (ji36) p1348 q1348
           obtain rfl : ad1335 = ad1348 := (by injection e1348)
           obtain ⟨ce1348, hce1348, hMe1348, hcc1348⟩ := Kd.S_get HO_3.out z61 (ji36) p1348 (by first | exact q1348 | exact of_decide_eq_true as_q | (have e_ := (Kd.S_reads' HO_3.out).1; omega))
           obtain ⟨ve1348_5, rfl, ge1348_5⟩ := k61_openM hMe1348
           have hv1348_5 := hcc1348 5 _ rfl
           rw [add_field _ _ 5 (by omega)] at hv1348_5
           replace hv1348_5 := Option.some.inj (hv1348_5.symm.trans hx1348_5)
           rw [hv1348_5] at ge1348_5
           have HL1348_5 := Aside0.mk (show Kd.R k127 127 _ _ _ _ ((rd_T61 t1326 (ji36)).f5) from ge1348_5)
           clear hv1348_5 ge1348_5
           clear hcc1348 hce1348
           have HR1348_5 := Aside0.mk hi1348_5
           have HC1348_5 := Aside0.mk hl1348_5
           clear hi1348_5 hl1348_5
           replace p1348 := eq_true p1348
           replace q1348 := eq_true q1348
           obtain ⟨Ao46, co46, eo46⟩ := Kd.S_slice HO_5.out
           subst eo46
           try go_wp2_with (first | ((with_reducible refine gate_callee (f := 42) rfl ?_); refine goesL_ (some 60) rfl rfl Try.func42 (by kernel_rfl) rfl #[.slice Ao46 x5_1.length co46, .agg #[.int .i64 ((rd_T61 t1326 (ji36)).f0), .int .i64 ((rd_T61 t1326 (ji36)).f1), .int .i64 ((rd_T61 t1326 (ji36)).f2), .int .i64 ((rd_T61 t1326 (ji36)).f3), .int .i64 ((rd_T61 t1326 (ji36)).f4), .slice A1348_5 ((rd_T61 t1326 (ji36)).f5).length c1348_5, .int .i64 ((rd_T61 t1326 (ji36)).f6), .bool ((rd_T61 t1326 (ji36)).f7)]] rfl (by (try simp only [List.map_toArray, List.map_cons, List.map_nil]); first | done | (simp only [hji36]; rfl) | rfl | (simp only [List.length_drop, List.length_take]; rfl)) ?_; (with_reducible refine (impl_Install.calls k1 _ _ x5_1 ((rd_T61 t1326 (ji36)).f0) ((rd_T61 t1326 (ji36)).f1) ((rd_T61 t1326 (ji36)).f2) ((rd_T61 t1326 (ji36)).f3) ((rd_T61 t1326 (ji36)).f4) _ _ ((rd_T61 t1326 (ji36)).f5) ((rd_T61 t1326 (ji36)).f6) ((rd_T61 t1326 (ji36)).f7) t1349 true _ ?side1 ?side2 ?side3 ?side4 A39.out).mono ?_); (case side1 => repeat (first | exact (Kd.S_reads' HO_5.out).2.2 | (with_reducible refine Kd.C_alloc ?_ _) | (with_reducible refine Kd.C_drewN ?_ _) | (with_reducible refine Kd.C_drew ?_))); (case side2 => exact (Kd.S_reads' HO_5.out).2.1); (case side3 => repeat (first | exact (by repeat (first | (with_reducible exact HR1348_5.out) | (with_reducible refine Kd.C_alloc ?_ _) | (with_reducible refine Kd.C_drewN ?_ _) | (with_reducible refine Kd.C_drew ?_) | exact HR1348_5.out)) | (with_reducible refine Kd.C_alloc ?_ _) | (with_reducible refine Kd.C_drewN ?_ _) | (with_reducible refine Kd.C_drew ?_))); (case side4 => exact HC1348_5.out); rintro e w47 ⟨v1350, rfl, ho0, hb⟩; refine ⟨_, rfl, ?_⟩; have HO1351 := Aside0.mk (Kd.S_lower (Kd.S_new' (Kd.S_new' (Kd.S_new' (Kd.S_new' (Kd.S_new' (Kd.S_new' (Kd.S_new' (Kd.S_new' ho0 (Kd.S_lt (kS_q HO_3))) (Kd.S_lt (kS_q HO_4))) (Kd.S_lt (kS_q HO_5))) (Kd.R_lt (kR_q HL1335_5))) (Kd.S_lt (kS_q HO1338))) (Kd.R_lt (kR_q HL1340_5))) (Kd.R_lt (kR_q HL1342_5))) (Kd.R_lt (kR_q HL1348_5))) (below_size (bw_q HB))); replace HO_3 := Aside0.mk (Kd.S_elder' (kS_q HO_3) (Kd.S_base ho0) hb); replace HO_4 := Aside0.mk (Kd.S_elder' (kS_q HO_4) (Kd.S_base ho0) hb); replace HO_5 := Aside0.mk (Kd.S_elder' (kS_q HO_5) (Kd.S_base ho0) hb); replace HL1335_5 := Aside0.mk (Kd.R_below (kR_q HL1335_5) hb); replace HO1338 := Aside0.mk (Kd.S_elder' (kS_q HO1338) (Kd.S_base ho0) hb); replace HL1340_5 := Aside0.mk (Kd.R_below (kR_q HL1340_5) hb); replace HL1342_5 := Aside0.mk (Kd.R_below (kR_q HL1342_5) hb); replace HL1348_5 := Aside0.mk (Kd.R_below (kR_q HL1348_5) hb); replace HR1335_5 := Aside0.mk (Kd.C_below (by repeat (first | (with_reducible exact HR1335_5.out) | (with_reducible refine Kd.C_alloc ?_ _) | (with_reducible refine Kd.C_drewN ?_ _) | (with_reducible refine Kd.C_drew ?_) | exact HR1335_5.out)) hb); replace HR1340_5 := Aside0.mk (Kd.C_below (by repeat (first | (with_reducible exact HR1340_5.out) | (with_reducible refine Kd.C_alloc ?_ _) | (with_reducible refine Kd.C_drewN ?_ _) | (with_reducible refine Kd.C_drew ?_) | exact HR1340_5.out)) hb); replace HR1342_5 := Aside0.mk (Kd.C_below (by repeat (first | (with_reducible exact HR1342_5.out) | (with_reducible refine Kd.C_alloc ?_ _) | (with_reducible refine Kd.C_drewN ?_ _) | (with_reducible refine Kd.C_drew ?_) | exact HR1342_5.out)) hb); replace HR1348_5 := Aside0.mk (Kd.C_below (by repeat (first | (with_reducible exact HR1348_5.out) | (with_reducible refine Kd.C_alloc ?_ _) | (with_reducible refine Kd.C_drewN ?_ _) | (with_reducible refine Kd.C_drew ?_) | exact HR1348_5.out)) hb); replace HB := Aside0.mk (below_step (bw_q HB) hb); (try clear hb); (try clear hb2); (try clear hk); (try clear hi); (try clear ho0)))
           go_roundg k1
           case measure => have := HK1.out; omega
           case rel => exact ⟨(x4_1), (t1349), (wrap64 (x6_1 + 1)), (by first | rfl | (simp; done) | (simp [*]; done)), H', ⟨by have := HK1.out; omega⟩, ⟨by (with_reducible repeat (first | apply Kd.S_alloc | apply Kd.S_drewN | apply Kd.S_drew)); exact Kd.S_mono HO_3.out (fun _ hk => ⟨hk.1.1.1, hk.2⟩)⟩, ⟨by (with_reducible repeat (first | apply Kd.S_alloc | apply Kd.S_drewN | apply Kd.S_drew)); exact Kd.S_mono HO_4.out (fun _ hk => ⟨hk.1.1.1, hk.2⟩)⟩, ⟨by (with_reducible repeat (first | apply Kd.S_alloc | apply Kd.S_drewN | apply Kd.S_drew)); exact Kd.S_mono HO1351.out (fun _ hk => ⟨hk.1.1.1.1.1.1.1.2, hk.1.1.1.1.1.1.2⟩)⟩, ⟨bw_q HB⟩⟩
          ·replace c40 := Bool.eq_false_iff.mpr c40
           subst c40
           have H1 : (laws_FnStores.l0 k1 t1326 x4_1 x5_1 (wrap64 (x6_1 + 1))) = some r := by rw [if_neg (show ¬ (false = true) by decide)] at H; exact H
           clear H
           have H := H1
           clear H1
           have H' := Aside0.mk H
           clear H
           refine done_ (done_of HT_.out (by kernel_rfl)) ?_
           have p1348 : 0 ≤ ((ji36) : Int) := of_decide_eq_true as_q
           have q1348 : (ji36) < (t1326.length : Int) := of_decide_eq_true as_q
           obtain ⟨ad1348, A1348_5, c1348_5, e1348, hx1348_0, hx1348_1, hx1348_2, hx1348_3, hx1348_4, hx1348_5, hx1348_6, hx1348_7, hl1348_5, hi1348_5⟩ := at_T61 (Kd.S_reads' HO_3.out).2.2 (ji36) p1348 q1348
           obtain rfl : ad1335 = ad1348 := (by injection e1348)
           obtain ⟨ce1348, hce1348, hMe1348, hcc1348⟩ := Kd.S_get HO_3.out z61 (ji36) p1348 (by first | exact q1348 | exact of_decide_eq_true as_q | (have e_ := (Kd.S_reads' HO_3.out).1; omega))
           obtain ⟨ve1348_5, rfl, ge1348_5⟩ := k61_openM hMe1348
           have hv1348_5 := hcc1348 5 _ rfl
           rw [add_field _ _ 5 (by omega)] at hv1348_5
           replace hv1348_5 := Option.some.inj (hv1348_5.symm.trans hx1348_5)
           rw [hv1348_5] at ge1348_5
           have HL1348_5 := Aside0.mk (show Kd.R k127 127 _ _ _ _ ((rd_T61 t1326 (ji36)).f5) from ge1348_5)
           clear hv1348_5 ge1348_5
           clear hcc1348 hce1348
           have HR1348_5 := Aside0.mk hi1348_5
           have HC1348_5 := Aside0.mk hl1348_5
           clear hi1348_5 hl1348_5
           replace p1348 := eq_true p1348
           replace q1348 := eq_true q1348
           obtain ⟨Ao53, co53, eo53⟩ := Kd.S_slice HO_5.out
           subst eo53
           try go_wp2_with (first | ((with_reducible refine gate_callee (f := 42) rfl ?_); refine goesL_ (some 60) rfl rfl Try.func42 (by kernel_rfl) rfl #[.slice Ao53 x5_1.length co53, .agg #[.int .i64 ((rd_T61 t1326 (ji36)).f0), .int .i64 ((rd_T61 t1326 (ji36)).f1), .int .i64 ((rd_T61 t1326 (ji36)).f2), .int .i64 ((rd_T61 t1326 (ji36)).f3), .int .i64 ((rd_T61 t1326 (ji36)).f4), .slice A1348_5 ((rd_T61 t1326 (ji36)).f5).length c1348_5, .int .i64 ((rd_T61 t1326 (ji36)).f6), .bool ((rd_T61 t1326 (ji36)).f7)]] rfl (by (try simp only [List.map_toArray, List.map_cons, List.map_nil]); first | done | (simp only [hji36]; rfl) | rfl | (simp only [List.length_drop, List.length_take]; rfl)) ?_; (with_reducible refine (impl_Install.calls k1 _ _ x5_1 ((rd_T61 t1326 (ji36)).f0) ((rd_T61 t1326 (ji36)).f1) ((rd_T61 t1326 (ji36)).f2) ((rd_T61 t1326 (ji36)).f3) ((rd_T61 t1326 (ji36)).f4) _ _ ((rd_T61 t1326 (ji36)).f5) ((rd_T61 t1326 (ji36)).f6) ((rd_T61 t1326 (ji36)).f7) t1349 false _ ?side1 ?side2 ?side3 ?side4 A39.out).mono ?_); (case side1 => repeat (first | exact (Kd.S_reads' HO_5.out).2.2 | (with_reducible refine Kd.C_alloc ?_ _) | (with_reducible refine Kd.C_drewN ?_ _) | (with_reducible refine Kd.C_drew ?_))); (case side2 => exact (Kd.S_reads' HO_5.out).2.1); (case side3 => repeat (first | exact (by repeat (first | (with_reducible exact HR1348_5.out) | (with_reducible refine Kd.C_alloc ?_ _) | (with_reducible refine Kd.C_drewN ?_ _) | (with_reducible refine Kd.C_drew ?_) | exact HR1348_5.out)) | (with_reducible refine Kd.C_alloc ?_ _) | (with_reducible refine Kd.C_drewN ?_ _) | (with_reducible refine Kd.C_drew ?_))); (case side4 => exact HC1348_5.out); rintro e w54 ⟨v1350, rfl, ho0, hb⟩; refine ⟨_, rfl, ?_⟩; have HO1351 := Aside0.mk (Kd.S_lower (Kd.S_new' (Kd.S_new' (Kd.S_new' (Kd.S_new' (Kd.S_new' (Kd.S_new' (Kd.S_new' (Kd.S_new' ho0 (Kd.S_lt (kS_q HO_3))) (Kd.S_lt (kS_q HO_4))) (Kd.S_lt (kS_q HO_5))) (Kd.R_lt (kR_q HL1335_5))) (Kd.S_lt (kS_q HO1338))) (Kd.R_lt (kR_q HL1340_5))) (Kd.R_lt (kR_q HL1342_5))) (Kd.R_lt (kR_q HL1348_5))) (below_size (bw_q HB))); replace HO_3 := Aside0.mk (Kd.S_elder' (kS_q HO_3) (Kd.S_base ho0) hb); replace HO_4 := Aside0.mk (Kd.S_elder' (kS_q HO_4) (Kd.S_base ho0) hb); replace HO_5 := Aside0.mk (Kd.S_elder' (kS_q HO_5) (Kd.S_base ho0) hb); replace HL1335_5 := Aside0.mk (Kd.R_below (kR_q HL1335_5) hb); replace HO1338 := Aside0.mk (Kd.S_elder' (kS_q HO1338) (Kd.S_base ho0) hb); replace HL1340_5 := Aside0.mk (Kd.R_below (kR_q HL1340_5) hb); replace HL1342_5 := Aside0.mk (Kd.R_below (kR_q HL1342_5) hb); replace HL1348_5 := Aside0.mk (Kd.R_below (kR_q HL1348_5) hb); replace HR1335_5 := Aside0.mk (Kd.C_below (by repeat (first | (with_reducible exact HR1335_5.out) | (with_reducible refine Kd.C_alloc ?_ _) | (with_reducible refine Kd.C_drewN ?_ _) | (with_reducible refine Kd.C_drew ?_) | exact HR1335_5.out)) hb); replace HR1340_5 := Aside0.mk (Kd.C_below (by repeat (first | (with_reducible exact HR1340_5.out) | (with_reducible refine Kd.C_alloc ?_ _) | (with_reducible refine Kd.C_drewN ?_ _) | (with_reducible refine Kd.C_drew ?_) | exact HR1340_5.out)) hb); replace HR1342_5 := Aside0.mk (Kd.C_below (by repeat (first | (with_reducible exact HR1342_5.out) | (with_reducible refine Kd.C_alloc ?_ _) | (with_reducible refine Kd.C_drewN ?_ _) | (with_reducible refine Kd.C_drew ?_) | exact HR1342_5.out)) hb); replace HR1348_5 := Aside0.mk (Kd.C_below (by repeat (first | (with_reducible exact HR1348_5.out) | (with_reducible refine Kd.C_alloc ?_ _) | (with_reducible refine Kd.C_drewN ?_ _) | (with_reducible refine Kd.C_drew ?_) | exact HR1348_5.out)) hb); replace HB := Aside0.mk (below_step (bw_q HB) hb); (try clear hb); (try clear hb2); (try clear hk); (try clear hi); (try clear ho0)))
           go_roundg k1
           case measure => have := HK1.out; omega
           case rel => exact ⟨(x4_1), (x5_1), (wrap64 (x6_1 + 1)), (by first | rfl | (simp; done) | (simp [*]; done)), H', ⟨by have := HK1.out; omega⟩, ⟨by (with_reducible repeat (first | apply Kd.S_alloc | apply Kd.S_drewN | apply Kd.S_drew)); exact Kd.S_mono HO_3.out (fun _ hk => ⟨hk.1.1.1, hk.1.1.2⟩)⟩, ⟨by (with_reducible repeat (first | apply Kd.S_alloc | apply Kd.S_drewN | apply Kd.S_drew)); exact Kd.S_mono HO_4.out (fun _ hk => ⟨hk.1.1.1, hk.1.1.2⟩)⟩, ⟨by (with_reducible repeat (first | apply Kd.S_alloc | apply Kd.S_drewN | apply Kd.S_drew)); exact Kd.S_mono HO_5.out (fun _ hk => ⟨hk.1.1.1, hk.1.1.2⟩)⟩, ⟨bw_q HB⟩⟩
         ·rw [if_neg c38] at H
          exact absurd H (by simp)
        ·rw [if_neg c37] at H
         exact absurd H (by simp)
     ·rw [if_neg c12] at H
      exact absurd H (by simp)
    ·rw [if_neg c11] at H
     have c11b0 : decide (x6_1 < (t1326.length : Int)) = false := decide_eq_false c11
     clear c11
     (first | rw [c11b0] | rw [c11b1] | (simp only [i64_w, i32_w]; first | rw [c11b0] | rw [c11b1]) | skip)
     have HC55 := Aside0.mk H
     clear H
     obtain ⟨Ao56, co56, eo56⟩ := Kd.S_slice HO_3.out
     subst eo56
     go_upto_region 17 with (fail)
     go_cut [74] (fun v74 wc => ∃ (kq : Nat) (x74_54 : Bool), v74 = .bool x74_54 ∧ Aside0 (laws_FnStores.j1 kq t1326 x4_1 x5_1 x74_54 = some r) ∧ Aside0 (kq ≤ k1) ∧ Aside0 (Kd.S k61 61 wc w.heap.size (fun k_ => some k_ ≠ (u4 : Value).ownBlock ∧ some k_ ≠ (u5 : Value).ownBlock) (.slice Ao56 t1326.length co56) t1326) ∧ Aside0 (Kd.S k61 61 wc w.heap.size (fun k_ => some k_ ≠ ((.slice Ao56 t1326.length co56) : Value).ownBlock ∧ some k_ ≠ (u5 : Value).ownBlock) u4 x4_1) ∧ Aside0 (Kd.S k61 61 wc w.heap.size (fun k_ => some k_ ≠ ((.slice Ao56 t1326.length co56) : Value).ownBlock ∧ some k_ ≠ (u4 : Value).ownBlock) u5 x5_1) ∧ Aside0 (Below w.heap.size w wc))
     case first =>
      have H := HC55.out
      clear HC55
      replace H := Option.bind_eq_some_iff.mp H
      obtain ⟨t1353, A570, H⟩ := H
      replace H : (if t1353 = true then (laws_FnStores.j1 k1 t1326 x4_1 x5_1 ((x4_1.length : Int) != (x5_1.length : Int))) else (laws_FnStores.j1 k1 t1326 x4_1 x5_1 true)) = some r := H
      have A57 := Aside0.mk A570
      clear A570
      by_cases c58 : t1353 = true
      ·subst c58
       have H1 : (laws_FnStores.j1 k1 t1326 x4_1 x5_1 ((x4_1.length : Int) != (x5_1.length : Int))) = some r := by rw [if_pos rfl] at H; exact H
       clear H
       have H := H1
       clear H1
       have H' := Aside0.mk H
       clear H
       obtain ⟨Ao59, co59, eo59⟩ := Kd.S_slice HO_4.out
       subst eo59
       go_wp2_with (first | ((with_reducible refine gate_callee (f := 50) rfl ?_); refine goesL_ (some 66) rfl rfl Try.func50 (by kernel_rfl) rfl #[.slice Ao59 x4_1.length co59] rfl mp_q ?_; (with_reducible refine (impl_StoreOk.calls k1 _ _ x4_1 true _ ?side1 ?side2 A57.out).mono ?_); (case side1 => repeat (first | exact (Kd.S_reads' HO_4.out).2.2 | (with_reducible refine Kd.C_alloc ?_ _) | (with_reducible refine Kd.C_drewN ?_ _) | (with_reducible refine Kd.C_drew ?_))); (case side2 => exact (Kd.S_reads' HO_4.out).2.1); rintro e w60 ⟨rfl, hb⟩; refine ⟨_, rfl, ?_⟩; replace HO_3 := Aside0.mk (Kd.S_below (kS_q HO_3) hb); replace HO_4 := Aside0.mk (Kd.S_below (kS_q HO_4) hb); replace HO_5 := Aside0.mk (Kd.S_below (kS_q HO_5) hb); replace HB := Aside0.mk (below_step (bw_q HB) hb); (try clear hb); (try clear hb2); (try clear hk); (try clear hi); obtain ⟨Ao61, co61, eo61⟩ := Kd.S_slice HO_5.out; subst eo61))
       go_meet
       case rel => exact ⟨_, (((x4_1.length : Int) != (x5_1.length : Int))), (by first | rfl | (simp; done) | (simp [*]; done)), H', ⟨by have := HK1.out; first | omega | exact Nat.le_refl _⟩, ⟨by (with_reducible repeat (first | apply Kd.S_alloc | apply Kd.S_drewN | apply Kd.S_drew)); exact HO_3.out⟩, ⟨by (with_reducible repeat (first | apply Kd.S_alloc | apply Kd.S_drewN | apply Kd.S_drew)); exact HO_4.out⟩, ⟨by (with_reducible repeat (first | apply Kd.S_alloc | apply Kd.S_drewN | apply Kd.S_drew)); exact HO_5.out⟩, ⟨bw_q HB⟩⟩
      ·replace c58 := Bool.eq_false_iff.mpr c58
       subst c58
       have H1 : (laws_FnStores.j1 k1 t1326 x4_1 x5_1 true) = some r := by rw [if_neg (show ¬ (false = true) by decide)] at H; exact H
       clear H
       have H := H1
       clear H1
       have H' := Aside0.mk H
       clear H
       obtain ⟨Ao62, co62, eo62⟩ := Kd.S_slice HO_4.out
       subst eo62
       go_wp2_with (first | ((with_reducible refine gate_callee (f := 50) rfl ?_); refine goesL_ (some 66) rfl rfl Try.func50 (by kernel_rfl) rfl #[.slice Ao62 x4_1.length co62] rfl mp_q ?_; (with_reducible refine (impl_StoreOk.calls k1 _ _ x4_1 false _ ?side1 ?side2 A57.out).mono ?_); (case side1 => repeat (first | exact (Kd.S_reads' HO_4.out).2.2 | (with_reducible refine Kd.C_alloc ?_ _) | (with_reducible refine Kd.C_drewN ?_ _) | (with_reducible refine Kd.C_drew ?_))); (case side2 => exact (Kd.S_reads' HO_4.out).2.1); rintro e w63 ⟨rfl, hb⟩; refine ⟨_, rfl, ?_⟩; replace HO_3 := Aside0.mk (Kd.S_below (kS_q HO_3) hb); replace HO_4 := Aside0.mk (Kd.S_below (kS_q HO_4) hb); replace HO_5 := Aside0.mk (Kd.S_below (kS_q HO_5) hb); replace HB := Aside0.mk (below_step (bw_q HB) hb); (try clear hb); (try clear hb2); (try clear hk); (try clear hi)))
       go_meet
       case rel => exact ⟨_, (true), (by first | rfl | (simp; done) | (simp [*]; done)), H', ⟨by have := HK1.out; first | omega | exact Nat.le_refl _⟩, ⟨by (with_reducible repeat (first | apply Kd.S_alloc | apply Kd.S_drewN | apply Kd.S_drew)); exact HO_3.out⟩, ⟨by (with_reducible repeat (first | apply Kd.S_alloc | apply Kd.S_drewN | apply Kd.S_drew)); exact HO_4.out⟩, ⟨by (with_reducible repeat (first | apply Kd.S_alloc | apply Kd.S_drewN | apply Kd.S_drew)); exact HO_5.out⟩, ⟨bw_q HB⟩⟩
     case rest =>
      clear HC55
      try clear c1
      try clear p1
      try clear q1
      try clear hx1
      try clear p2
      try clear c3
      try clear c4
      try clear c5
      try clear p6
      try clear c11
      try clear c11b0
      try clear c11b1
      try clear c12
      try clear c13
      try clear p13
      try clear q13
      try clear hx13
      try clear c37
      try clear c38
      try clear c40
      try clear c42
      try clear c49
      try clear c50
      try clear c58
      try clear hx1335_0
      try clear hx1335_1
      try clear hx1335_2
      try clear hx1335_3
      try clear hx1335_4
      try clear hx1335_5
      try clear hx1335_6
      try clear hx1335_7
      try clear hx1340_0
      try clear hx1340_1
      try clear hx1340_2
      try clear hx1340_3
      try clear hx1340_4
      try clear hx1340_5
      try clear hx1340_6
      try clear hx1340_7
      try clear hx1342_0
      try clear hx1342_1
      try clear hx1342_2
      try clear hx1342_3
      try clear hx1342_4
      try clear hx1342_5
      try clear hx1342_6
      try clear hx1342_7
      try clear hx1348_0
      try clear hx1348_1
      try clear hx1348_2
      try clear hx1348_3
      try clear hx1348_4
      try clear hx1348_5
      try clear hx1348_6
      try clear hx1348_7
      try clear p1335
      try clear p1340
      try clear p1342
      try clear p1348
      try clear q1335
      try clear q1340
      try clear q1342
      try clear q1348
      obtain ⟨kq, x74_54, rfl, HA, HJ54, HO_3, HO_4, HO_5, HB⟩ := hcut
      cases kq with
      | zero => exact absurd HA.out (by simp [laws_FnStores.j1])
      | succ kj54 =>
       have H := HA.out
       clear HA
       simp only [laws_FnStores.j1] at H
       by_cases c64 : x74_54 = true
       ·subst c64
        have H1 : (some false) = some r := by rw [if_pos rfl] at H; exact H
        clear H
        have H := H1
        clear H1
        exact absurd (Option.some.inj H) (by rw [hr_]; decide)
       ·replace c64 := Bool.eq_false_iff.mpr c64
        subst c64
        have H1 : (laws_FnStores.l1 kj54 t1326 x4_1 x5_1 0) = some r := by rw [if_neg (show ¬ (false = true) by decide)] at H; exact H
        clear H
        have H := H1
        clear H1
        have H' := Aside0.mk H
        clear H
        go_wp2
        go_loopg [9] kj54 (fun kq v9 w' => ∃ (x9_3 : Int), v9 = .int .i64 x9_3 ∧ Aside0 (laws_FnStores.l1 kq t1326 x4_1 x5_1 x9_3 = some r) ∧ Aside0 (kq ≤ kj54) ∧ Aside0 (Kd.S k61 61 w' w.heap.size (fun k_ => some k_ ≠ (u4 : Value).ownBlock ∧ some k_ ≠ (u5 : Value).ownBlock) (.slice Ao56 t1326.length co56) t1326) ∧ Aside0 (Kd.S k61 61 w' w.heap.size (fun k_ => some k_ ≠ ((.slice Ao56 t1326.length co56) : Value).ownBlock ∧ some k_ ≠ (u5 : Value).ownBlock) u4 x4_1) ∧ Aside0 (Kd.S k61 61 w' w.heap.size (fun k_ => some k_ ≠ ((.slice Ao56 t1326.length co56) : Value).ownBlock ∧ some k_ ≠ (u4 : Value).ownBlock) u5 x5_1) ∧ Aside0 (Below w.heap.size w w'))
        case atStart => exact ⟨(0), (by first | rfl | (simp; done) | (simp [*]; done)), H', ⟨Nat.le_refl _⟩, ⟨by (with_reducible repeat (first | apply Kd.S_alloc | apply Kd.S_drewN | apply Kd.S_drew)); exact HO_3.out⟩, ⟨by (with_reducible repeat (first | apply Kd.S_alloc | apply Kd.S_drewN | apply Kd.S_drew)); exact HO_4.out⟩, ⟨by (with_reducible repeat (first | apply Kd.S_alloc | apply Kd.S_drewN | apply Kd.S_drew)); exact HO_5.out⟩, ⟨bw_q HB⟩⟩
        case round =>
         clear H'
         try clear c1
         try clear p1
         try clear q1
         try clear hx1
         try clear p2
         try clear c3
         try clear c4
         try clear c5
         try clear c6
         try clear p6
         try clear c11
         try clear c11b0
         try clear c11b1
         try clear c12
         try clear c13
         try clear p13
         try clear q13
         try clear hx13
         try clear c37
         try clear c38
         try clear c40
         try clear c42
         try clear c49
         try clear c50
         try clear c58
         try clear c64
         try clear p64
         try clear hx1335_0
         try clear hx1335_1
         try clear hx1335_2
         try clear hx1335_3
         try clear hx1335_4
         try clear hx1335_5
         try clear hx1335_6
         try clear hx1335_7
         try clear hx1340_0
         try clear hx1340_1
         try clear hx1340_2
         try clear hx1340_3
         try clear hx1340_4
         try clear hx1340_5
         try clear hx1340_6
         try clear hx1340_7
         try clear hx1342_0
         try clear hx1342_1
         try clear hx1342_2
         try clear hx1342_3
         try clear hx1342_4
         try clear hx1342_5
         try clear hx1342_6
         try clear hx1342_7
         try clear hx1348_0
         try clear hx1348_1
         try clear hx1348_2
         try clear hx1348_3
         try clear hx1348_4
         try clear hx1348_5
         try clear hx1348_6
         try clear hx1348_7
         try clear p1
         try clear p13
         try clear p1335
         try clear p1340
         try clear p1342
         try clear p1348
         try clear p2
         try clear p6
         try clear q1
         try clear q13
         try clear q1335
         try clear q1340
         try clear q1342
         try clear q1348
         obtain ⟨x9_3, rfl, HA, HK3, HO_3, HO_4, HO_5, HB⟩ := hrel
         cases gk with
         | zero => exact absurd HA.out (by simp [laws_FnStores.l1])
         | succ k3 =>
          have H := HA.out
          clear HA
          simp only [laws_FnStores.l1] at H
          by_cases c65 : x9_3 < (x4_1.length : Int)
          ·rw [if_pos c65] at H
           have c65b0 : decide (x9_3 < (x4_1.length : Int)) = true := decide_eq_true c65
           clear c65
           by_cases c66 : 0 ≤ x9_3
           ·rw [if_pos c66] at H
            have c66b0 : decide (0 ≤ x9_3) = true := decide_eq_true c66
            clear c66
            replace H := Option.bind_eq_some_iff.mp H
            obtain ⟨⟨t1362, t1363, t1364, t1365, t1366, t1367, t1370, t1371, t1372⟩, A670, H⟩ := H
            replace H : (if t1372 = true then ((laws_same.f k3 t1362 t1363 t1364 t1365 t1366 t1367 t1370 t1371 ((rd_T61 x4_1 x9_3).f0) ((rd_T61 x4_1 x9_3).f1) ((rd_T61 x4_1 x9_3).f2) ((rd_T61 x4_1 x9_3).f3) ((rd_T61 x4_1 x9_3).f4) ((rd_T61 x4_1 x9_3).f5) ((rd_T61 x4_1 x9_3).f6) ((rd_T61 x4_1 x9_3).f7)).bind fun t1375 => (if t1375 = true then (if x9_3 < (x5_1.length : Int) then ((spec_SameKey.f ((rd_T61 x4_1 x9_3).f0) ((rd_T61 x4_1 x9_3).f1) ((rd_T61 x4_1 x9_3).f2) ((rd_T61 x4_1 x9_3).f3) ((rd_T61 x4_1 x9_3).f4) ((rd_T61 x4_1 x9_3).f5) ((rd_T61 x4_1 x9_3).f6) ((rd_T61 x4_1 x9_3).f7) ((rd_T61 x5_1 x9_3).f0) ((rd_T61 x5_1 x9_3).f1) ((rd_T61 x5_1 x9_3).f2) ((rd_T61 x5_1 x9_3).f3) ((rd_T61 x5_1 x9_3).f4) ((rd_T61 x5_1 x9_3).f5) ((rd_T61 x5_1 x9_3).f6) ((rd_T61 x5_1 x9_3).f7)).bind fun t1378 => (if t1378 = true then (if ((rd_T61 x4_1 x9_3).f4) = ((rd_T61 x5_1 x9_3).f4) then ((laws_newest.f k3 t1326 ((rd_T61 x4_1 x9_3).f0) ((rd_T61 x4_1 x9_3).f1) ((rd_T61 x4_1 x9_3).f2) ((rd_T61 x4_1 x9_3).f3) ((rd_T61 x4_1 x9_3).f4) ((rd_T61 x4_1 x9_3).f5) ((rd_T61 x4_1 x9_3).f6) ((rd_T61 x4_1 x9_3).f7)).bind fun t1383 => (if ((rd_T61 x4_1 x9_3).f4) = t1383 then (laws_FnStores.l1 k3 t1326 x4_1 x5_1 (wrap64 (x9_3 + 1))) else (some false))) else (some false)) else (some false))) else (none)) else (some false))) else (some false)) = some r := H
            have A67 := Aside0.mk A670
            clear A670
            by_cases c68 : t1372 = true
            ·subst c68
             have H1 : ((laws_same.f k3 t1362 t1363 t1364 t1365 t1366 t1367 t1370 t1371 ((rd_T61 x4_1 x9_3).f0) ((rd_T61 x4_1 x9_3).f1) ((rd_T61 x4_1 x9_3).f2) ((rd_T61 x4_1 x9_3).f3) ((rd_T61 x4_1 x9_3).f4) ((rd_T61 x4_1 x9_3).f5) ((rd_T61 x4_1 x9_3).f6) ((rd_T61 x4_1 x9_3).f7)).bind fun t1375 => (if t1375 = true then (if x9_3 < (x5_1.length : Int) then ((spec_SameKey.f ((rd_T61 x4_1 x9_3).f0) ((rd_T61 x4_1 x9_3).f1) ((rd_T61 x4_1 x9_3).f2) ((rd_T61 x4_1 x9_3).f3) ((rd_T61 x4_1 x9_3).f4) ((rd_T61 x4_1 x9_3).f5) ((rd_T61 x4_1 x9_3).f6) ((rd_T61 x4_1 x9_3).f7) ((rd_T61 x5_1 x9_3).f0) ((rd_T61 x5_1 x9_3).f1) ((rd_T61 x5_1 x9_3).f2) ((rd_T61 x5_1 x9_3).f3) ((rd_T61 x5_1 x9_3).f4) ((rd_T61 x5_1 x9_3).f5) ((rd_T61 x5_1 x9_3).f6) ((rd_T61 x5_1 x9_3).f7)).bind fun t1378 => (if t1378 = true then (if ((rd_T61 x4_1 x9_3).f4) = ((rd_T61 x5_1 x9_3).f4) then ((laws_newest.f k3 t1326 ((rd_T61 x4_1 x9_3).f0) ((rd_T61 x4_1 x9_3).f1) ((rd_T61 x4_1 x9_3).f2) ((rd_T61 x4_1 x9_3).f3) ((rd_T61 x4_1 x9_3).f4) ((rd_T61 x4_1 x9_3).f5) ((rd_T61 x4_1 x9_3).f6) ((rd_T61 x4_1 x9_3).f7)).bind fun t1383 => (if ((rd_T61 x4_1 x9_3).f4) = t1383 then (laws_FnStores.l1 k3 t1326 x4_1 x5_1 (wrap64 (x9_3 + 1))) else (some false))) else (some false)) else (some false))) else (none)) else (some false))) = some r := by rw [if_pos rfl] at H; exact H
             clear H
             have H := H1
             clear H1
             replace H := Option.bind_eq_some_iff.mp H
             obtain ⟨t1375, A690, H⟩ := H
             replace H : (if t1375 = true then (if x9_3 < (x5_1.length : Int) then ((spec_SameKey.f ((rd_T61 x4_1 x9_3).f0) ((rd_T61 x4_1 x9_3).f1) ((rd_T61 x4_1 x9_3).f2) ((rd_T61 x4_1 x9_3).f3) ((rd_T61 x4_1 x9_3).f4) ((rd_T61 x4_1 x9_3).f5) ((rd_T61 x4_1 x9_3).f6) ((rd_T61 x4_1 x9_3).f7) ((rd_T61 x5_1 x9_3).f0) ((rd_T61 x5_1 x9_3).f1) ((rd_T61 x5_1 x9_3).f2) ((rd_T61 x5_1 x9_3).f3) ((rd_T61 x5_1 x9_3).f4) ((rd_T61 x5_1 x9_3).f5) ((rd_T61 x5_1 x9_3).f6) ((rd_T61 x5_1 x9_3).f7)).bind fun t1378 => (if t1378 = true then (if ((rd_T61 x4_1 x9_3).f4) = ((rd_T61 x5_1 x9_3).f4) then ((laws_newest.f k3 t1326 ((rd_T61 x4_1 x9_3).f0) ((rd_T61 x4_1 x9_3).f1) ((rd_T61 x4_1 x9_3).f2) ((rd_T61 x4_1 x9_3).f3) ((rd_T61 x4_1 x9_3).f4) ((rd_T61 x4_1 x9_3).f5) ((rd_T61 x4_1 x9_3).f6) ((rd_T61 x4_1 x9_3).f7)).bind fun t1383 => (if ((rd_T61 x4_1 x9_3).f4) = t1383 then (laws_FnStores.l1 k3 t1326 x4_1 x5_1 (wrap64 (x9_3 + 1))) else (some false))) else (some false)) else (some false))) else (none)) else (some false)) = some r := H
             have A69 := Aside0.mk A690
             clear A690
             by_cases c70 : t1375 = true
             ·subst c70
              have H1 : (if x9_3 < (x5_1.length : Int) then ((spec_SameKey.f ((rd_T61 x4_1 x9_3).f0) ((rd_T61 x4_1 x9_3).f1) ((rd_T61 x4_1 x9_3).f2) ((rd_T61 x4_1 x9_3).f3) ((rd_T61 x4_1 x9_3).f4) ((rd_T61 x4_1 x9_3).f5) ((rd_T61 x4_1 x9_3).f6) ((rd_T61 x4_1 x9_3).f7) ((rd_T61 x5_1 x9_3).f0) ((rd_T61 x5_1 x9_3).f1) ((rd_T61 x5_1 x9_3).f2) ((rd_T61 x5_1 x9_3).f3) ((rd_T61 x5_1 x9_3).f4) ((rd_T61 x5_1 x9_3).f5) ((rd_T61 x5_1 x9_3).f6) ((rd_T61 x5_1 x9_3).f7)).bind fun t1378 => (if t1378 = true then (if ((rd_T61 x4_1 x9_3).f4) = ((rd_T61 x5_1 x9_3).f4) then ((laws_newest.f k3 t1326 ((rd_T61 x4_1 x9_3).f0) ((rd_T61 x4_1 x9_3).f1) ((rd_T61 x4_1 x9_3).f2) ((rd_T61 x4_1 x9_3).f3) ((rd_T61 x4_1 x9_3).f4) ((rd_T61 x4_1 x9_3).f5) ((rd_T61 x4_1 x9_3).f6) ((rd_T61 x4_1 x9_3).f7)).bind fun t1383 => (if ((rd_T61 x4_1 x9_3).f4) = t1383 then (laws_FnStores.l1 k3 t1326 x4_1 x5_1 (wrap64 (x9_3 + 1))) else (some false))) else (some false)) else (some false))) else (none)) = some r := by rw [if_pos rfl] at H; exact H
              clear H
              have H := H1
              clear H1
              by_cases c71 : x9_3 < (x5_1.length : Int)
              ·rw [if_pos c71] at H
               have c71b0 : decide (x9_3 < (x5_1.length : Int)) = true := decide_eq_true c71
               clear c71
               replace H := Option.bind_eq_some_iff.mp H
               obtain ⟨t1378, A720, H⟩ := H
               replace H : (if t1378 = true then (if ((rd_T61 x4_1 x9_3).f4) = ((rd_T61 x5_1 x9_3).f4) then ((laws_newest.f k3 t1326 ((rd_T61 x4_1 x9_3).f0) ((rd_T61 x4_1 x9_3).f1) ((rd_T61 x4_1 x9_3).f2) ((rd_T61 x4_1 x9_3).f3) ((rd_T61 x4_1 x9_3).f4) ((rd_T61 x4_1 x9_3).f5) ((rd_T61 x4_1 x9_3).f6) ((rd_T61 x4_1 x9_3).f7)).bind fun t1383 => (if ((rd_T61 x4_1 x9_3).f4) = t1383 then (laws_FnStores.l1 k3 t1326 x4_1 x5_1 (wrap64 (x9_3 + 1))) else (some false))) else (some false)) else (some false)) = some r := H
               have A72 := Aside0.mk A720
               clear A720
               by_cases c73 : t1378 = true
               ·subst c73
                have H1 : (if ((rd_T61 x4_1 x9_3).f4) = ((rd_T61 x5_1 x9_3).f4) then ((laws_newest.f k3 t1326 ((rd_T61 x4_1 x9_3).f0) ((rd_T61 x4_1 x9_3).f1) ((rd_T61 x4_1 x9_3).f2) ((rd_T61 x4_1 x9_3).f3) ((rd_T61 x4_1 x9_3).f4) ((rd_T61 x4_1 x9_3).f5) ((rd_T61 x4_1 x9_3).f6) ((rd_T61 x4_1 x9_3).f7)).bind fun t1383 => (if ((rd_T61 x4_1 x9_3).f4) = t1383 then (laws_FnStores.l1 k3 t1326 x4_1 x5_1 (wrap64 (x9_3 + 1))) else (some false))) else (some false)) = some r := by rw [if_pos rfl] at H; exact H
                clear H
                have H := H1
                clear H1
                by_cases c74 : ((rd_T61 x4_1 x9_3).f4) = ((rd_T61 x5_1 x9_3).f4)
                ·rw [if_pos c74] at H
                 have c74b0 : (((rd_T61 x4_1 x9_3).f4) == ((rd_T61 x5_1 x9_3).f4)) = true := beq_iff_eq.mpr c74
                 have c74b1 : (((rd_T61 x4_1 x9_3).f4) != ((rd_T61 x5_1 x9_3).f4)) = false := bne_eq_false_iff_eq.mpr c74
                 clear c74
                 replace H := Option.bind_eq_some_iff.mp H
                 obtain ⟨t1383, A750, H⟩ := H
                 replace H : (if ((rd_T61 x4_1 x9_3).f4) = t1383 then (laws_FnStores.l1 k3 t1326 x4_1 x5_1 (wrap64 (x9_3 + 1))) else (some false)) = some r := H
                 have A75 := Aside0.mk A750
                 clear A750
                 by_cases c76 : ((rd_T61 x4_1 x9_3).f4) = t1383
                 ·rw [if_pos c76] at H
                  have c76b0 : (((rd_T61 x4_1 x9_3).f4) == t1383) = true := beq_iff_eq.mpr c76
                  have c76b1 : (((rd_T61 x4_1 x9_3).f4) != t1383) = false := bne_eq_false_iff_eq.mpr c76
                  clear c76
                  have H' := Aside0.mk H
                  clear H
                  obtain ⟨Ao77, co77, eo77⟩ := Kd.S_slice HO_4.out
                  subst eo77
                  have p1361 : 0 ≤ (x9_3 : Int) := of_decide_eq_true as_q
                  have q1361 : x9_3 < (x4_1.length : Int) := of_decide_eq_true as_q
                  obtain ⟨ad1361, A1361_5, c1361_5, e1361, hx1361_0, hx1361_1, hx1361_2, hx1361_3, hx1361_4, hx1361_5, hx1361_6, hx1361_7, hl1361_5, hi1361_5⟩ := at_T61 (Kd.S_reads' HO_4.out).2.2 x9_3 p1361 q1361
                  cases e1361
                  obtain ⟨ce1361, hce1361, hMe1361, hcc1361⟩ := Kd.S_get HO_4.out z61 x9_3 p1361 (by first | exact q1361 | exact of_decide_eq_true as_q | (have e_ := (Kd.S_reads' HO_4.out).1; omega))
                  obtain ⟨ve1361_5, rfl, ge1361_5⟩ := k61_openM hMe1361
                  have hv1361_5 := hcc1361 5 _ rfl
                  rw [add_field _ _ 5 (by omega)] at hv1361_5
                  replace hv1361_5 := Option.some.inj (hv1361_5.symm.trans hx1361_5)
                  rw [hv1361_5] at ge1361_5
                  have HL1361_5 := Aside0.mk (show Kd.R k127 127 _ _ _ _ ((rd_T61 x4_1 x9_3).f5) from ge1361_5)
                  clear hv1361_5 ge1361_5
                  clear hcc1361 hce1361
                  have HR1361_5 := Aside0.mk hi1361_5
                  have HC1361_5 := Aside0.mk hl1361_5
                  clear hi1361_5 hl1361_5
                  replace p1361 := eq_true p1361
                  replace q1361 := eq_true q1361
                  try go_wp2_with (first | ((with_reducible refine gate_callee (f := 37) rfl ?_); refine goesL_ (some 87) rfl rfl Try.func37 (by kernel_rfl) rfl #[.slice (some ad1361) x4_1.length co77, .agg #[.int .i64 ((rd_T61 x4_1 x9_3).f0), .int .i64 ((rd_T61 x4_1 x9_3).f1), .int .i64 ((rd_T61 x4_1 x9_3).f2), .int .i64 ((rd_T61 x4_1 x9_3).f3), .int .i64 ((rd_T61 x4_1 x9_3).f4), .slice A1361_5 ((rd_T61 x4_1 x9_3).f5).length c1361_5, .int .i64 ((rd_T61 x4_1 x9_3).f6), .bool ((rd_T61 x4_1 x9_3).f7)]] rfl mp_q ?_; (with_reducible refine (impl_Find.calls k3 _ _ x4_1 ((rd_T61 x4_1 x9_3).f0) ((rd_T61 x4_1 x9_3).f1) ((rd_T61 x4_1 x9_3).f2) ((rd_T61 x4_1 x9_3).f3) ((rd_T61 x4_1 x9_3).f4) _ _ ((rd_T61 x4_1 x9_3).f5) ((rd_T61 x4_1 x9_3).f6) ((rd_T61 x4_1 x9_3).f7) t1362 t1363 t1364 t1365 t1366 t1367 t1370 t1371 true _ ?side1 ?side2 ?side3 ?side4 A67.out).mono ?_); (case side1 => repeat (first | exact (Kd.S_reads' HO_4.out).2.2 | (with_reducible refine Kd.C_alloc ?_ _) | (with_reducible refine Kd.C_drewN ?_ _) | (with_reducible refine Kd.C_drew ?_))); (case side2 => exact (Kd.S_reads' HO_4.out).2.1); (case side3 => repeat (first | exact (by repeat (first | (with_reducible exact HR1361_5.out) | (with_reducible refine Kd.C_alloc ?_ _) | (with_reducible refine Kd.C_drewN ?_ _) | (with_reducible refine Kd.C_drew ?_) | exact HR1361_5.out)) | (with_reducible refine Kd.C_alloc ?_ _) | (with_reducible refine Kd.C_drewN ?_ _) | (with_reducible refine Kd.C_drew ?_))); (case side4 => exact HC1361_5.out); rintro e w78 ⟨v1368, rfl, ho0, hb⟩; refine ⟨_, rfl, ?_⟩; have hs_v1368 : (v1368 : Value).oneCell' = true := (by first | (have h_ := Kd.R_slice ho0; obtain ⟨A_, c_, e_⟩ := h_; simp [e_, Value.oneCell']) | (have h_ := Kd.S_slice ho0; obtain ⟨A_, c_, e_⟩ := h_; simp [e_, Value.oneCell']) | (have h_ := Kd.N_slice ho0; obtain ⟨A_, c_, e_⟩ := h_; simp [e_, Value.oneCell']) | (have h_ := Kd.V_slice ho0; obtain ⟨A_, c_, e_⟩ := h_; simp [e_, Value.oneCell'])); have hst_v1368 := fun (w_ : World) (a_ : Addr) m_ => run_store Try.prog w_ a_ v1368 m_ hs_v1368; replace HO_3 := Aside0.mk (Kd.S_elder' (kS_q HO_3) (Kd.R_base ho0) hb); replace HO_4 := Aside0.mk (Kd.S_elder' (kS_q HO_4) (Kd.R_base ho0) hb); replace HO_5 := Aside0.mk (Kd.S_elder' (kS_q HO_5) (Kd.R_base ho0) hb); have HO1369 := Aside0.mk (Kd.R_lower (Kd.R_new' ho0 (Kd.R_lt (kR_q HL1361_5))) (below_size (bw_q HB))); replace HL1361_5 := Aside0.mk (Kd.R_elder' (kR_q HL1361_5) (Kd.R_base ho0) hb); replace HR1361_5 := Aside0.mk (Kd.C_below (by repeat (first | (with_reducible exact HR1361_5.out) | (with_reducible refine Kd.C_alloc ?_ _) | (with_reducible refine Kd.C_drewN ?_ _) | (with_reducible refine Kd.C_drew ?_) | exact HR1361_5.out)) hb); replace HB := Aside0.mk (below_step (bw_q HB) hb); (try clear hb); (try clear hb2); (try clear hk); (try clear hi); (try clear ho0)) | ((with_reducible refine gate_dst (N := 10) rfl ?_); (try (refine gate_guard (by rfl) ?_; dsimp only)); refine box_q 10 #[.int .i64 0, .int .i64 0, .int .i64 0, .int .i64 0, .int .i64 0, .slice none 0 0, .int .i64 0, .bool false] 61 ?_; intro gb1373 hg w79 hbox hb; replace HO_3 := Aside0.mk (Kd.S_below (Kd.S_elderB (kS_q HO_3) gb1373 (Nat.le_of_eq hg.symm)) hb); replace HO_4 := Aside0.mk (Kd.S_below (Kd.S_elderB (kS_q HO_4) gb1373 (Nat.le_of_eq hg.symm)) hb); replace HO_5 := Aside0.mk (Kd.S_below (Kd.S_elderB (kS_q HO_5) gb1373 (Nat.le_of_eq hg.symm)) hb); replace HL1361_5 := Aside0.mk (Kd.R_below (kR_q HL1361_5) hb); replace HO1369 := Aside0.mk (Kd.R_below (kR_q HO1369) hb); replace HR1361_5 := Aside0.mk (Kd.C_below (by repeat (first | (with_reducible exact HR1361_5.out) | (with_reducible refine Kd.C_alloc ?_ _) | (with_reducible refine Kd.C_drewN ?_ _) | (with_reducible refine Kd.C_drew ?_) | exact HR1361_5.out)) hb); have BK1373 := Aside0.mk (hbox); have GW1373 := Aside0.mk ((by rw [hg]; exact (below_size (bw_q HB)) : w.heap.size ≤ gb1373)); have GE1373 := Aside0.mk ((by rw [hg]; exact (below_size (bw_q HB)) : w.heap.size ≤ gb1373)); replace HB := Aside0.mk (below_step (bw_q HB) hb); clear hb hbox hg; have hcz80_0 : w79.cell? ⟨gb1373, 0, none⟩ = some (.int .i64 0) := (blk_cell BK1373.out 0).trans rfl; have hcz80_1 : w79.cell? ⟨gb1373, 1, none⟩ = some (.int .i64 0) := (blk_cell BK1373.out 1).trans rfl; have hcz80_2 : w79.cell? ⟨gb1373, 2, none⟩ = some (.int .i64 0) := (blk_cell BK1373.out 2).trans rfl; have hcz80_3 : w79.cell? ⟨gb1373, 3, none⟩ = some (.int .i64 0) := (blk_cell BK1373.out 3).trans rfl; have hcz80_4 : w79.cell? ⟨gb1373, 4, none⟩ = some (.int .i64 0) := (blk_cell BK1373.out 4).trans rfl; have hcz80_5 : w79.cell? ⟨gb1373, 5, none⟩ = some (.slice none 0 0) := (blk_cell BK1373.out 5).trans rfl; have hcz80_6 : w79.cell? ⟨gb1373, 6, none⟩ = some (.int .i64 0) := (blk_cell BK1373.out 6).trans rfl; have hcz80_7 : w79.cell? ⟨gb1373, 7, none⟩ = some (.bool false) := (blk_cell BK1373.out 7).trans rfl; have hfz80_0 := blk_frozen BK1373.out 0; have hfz80_1 := blk_frozen BK1373.out 1; have hfz80_2 := blk_frozen BK1373.out 2; have hfz80_3 := blk_frozen BK1373.out 3; have hfz80_4 := blk_frozen BK1373.out 4; have hfz80_5 := blk_frozen BK1373.out 5; have hfz80_6 := blk_frozen BK1373.out 6; have hfz80_7 := blk_frozen BK1373.out 7; obtain ⟨Ao81, co81, eo81⟩ := Kd.R_slice HO1369.out; subst eo81))
                  have n0_ : Aside0 (Kd.S k61 61 ((((((((w79.setCell ⟨gb1373, 0, none⟩ (.int .i64 t1362)).setCell ⟨gb1373, 1, none⟩ (.int .i64 t1363)).setCell ⟨gb1373, 2, none⟩ (.int .i64 t1364)).setCell ⟨gb1373, 3, none⟩ (.int .i64 t1365)).setCell ⟨gb1373, 4, none⟩ (.int .i64 t1366)).setCell ⟨gb1373, 5, none⟩ (.slice Ao81 t1367.length co81)).setCell ⟨gb1373, 6, none⟩ (.int .i64 t1370)).setCell ⟨gb1373, 7, none⟩ (.bool t1371)) w.heap.size (fun k_ => some k_ ≠ (.slice (some ad1361) x4_1.length co77 : Value).ownBlock ∧ some k_ ≠ (u5 : Value).ownBlock ∧ some k_ ≠ (.slice Ao81 t1367.length co81 : Value).ownBlock ∧ k_ ≠ gb1373) (.slice Ao56 t1326.length co56) t1326) := ⟨by (with_reducible repeat (first | apply Kd.S_alloc | apply Kd.S_drewN | apply Kd.S_drew)); exact Kd.S_mono (Kd.S_far (p := ⟨gb1373, 7, none⟩) (Kd.S_far (p := ⟨gb1373, 6, none⟩) (Kd.S_far (p := ⟨gb1373, 5, none⟩) (Kd.S_far (p := ⟨gb1373, 4, none⟩) (Kd.S_far (p := ⟨gb1373, 3, none⟩) (Kd.S_far (p := ⟨gb1373, 2, none⟩) (Kd.S_far (p := ⟨gb1373, 1, none⟩) (Kd.S_far (p := ⟨gb1373, 0, none⟩) (Kd.S_mono HO_3.out (fun k_ hk => (⟨hk, hk.2⟩ : _ ∧ k_ ≠ gb1373))) (fun _ hk => hk.2) (.int .i64 t1362)) (fun _ hk => hk.2) (.int .i64 t1363)) (fun _ hk => hk.2) (.int .i64 t1364)) (fun _ hk => hk.2) (.int .i64 t1365)) (fun _ hk => hk.2) (.int .i64 t1366)) (fun _ hk => hk.2) (.slice Ao81 t1367.length co81)) (fun _ hk => hk.2) (.int .i64 t1370)) (fun _ hk => hk.2) (.bool t1371)) (fun _ hk => ⟨hk.1.1.1.1, ⟨hk.1.1.1.2, ⟨hk.1.1.2, hk.1.2⟩⟩⟩)⟩
                  have n1_ : Aside0 (Kd.S k61 61 ((((((((w79.setCell ⟨gb1373, 0, none⟩ (.int .i64 t1362)).setCell ⟨gb1373, 1, none⟩ (.int .i64 t1363)).setCell ⟨gb1373, 2, none⟩ (.int .i64 t1364)).setCell ⟨gb1373, 3, none⟩ (.int .i64 t1365)).setCell ⟨gb1373, 4, none⟩ (.int .i64 t1366)).setCell ⟨gb1373, 5, none⟩ (.slice Ao81 t1367.length co81)).setCell ⟨gb1373, 6, none⟩ (.int .i64 t1370)).setCell ⟨gb1373, 7, none⟩ (.bool t1371)) w.heap.size (fun k_ => some k_ ≠ (.slice Ao56 t1326.length co56 : Value).ownBlock ∧ some k_ ≠ (u5 : Value).ownBlock ∧ some k_ ≠ (.slice Ao81 t1367.length co81 : Value).ownBlock ∧ k_ ≠ gb1373) (.slice (some ad1361) x4_1.length co77) x4_1) := ⟨by (with_reducible repeat (first | apply Kd.S_alloc | apply Kd.S_drewN | apply Kd.S_drew)); exact Kd.S_mono (Kd.S_far (p := ⟨gb1373, 7, none⟩) (Kd.S_far (p := ⟨gb1373, 6, none⟩) (Kd.S_far (p := ⟨gb1373, 5, none⟩) (Kd.S_far (p := ⟨gb1373, 4, none⟩) (Kd.S_far (p := ⟨gb1373, 3, none⟩) (Kd.S_far (p := ⟨gb1373, 2, none⟩) (Kd.S_far (p := ⟨gb1373, 1, none⟩) (Kd.S_far (p := ⟨gb1373, 0, none⟩) (Kd.S_mono HO_4.out (fun k_ hk => (⟨hk, hk.2⟩ : _ ∧ k_ ≠ gb1373))) (fun _ hk => hk.2) (.int .i64 t1362)) (fun _ hk => hk.2) (.int .i64 t1363)) (fun _ hk => hk.2) (.int .i64 t1364)) (fun _ hk => hk.2) (.int .i64 t1365)) (fun _ hk => hk.2) (.int .i64 t1366)) (fun _ hk => hk.2) (.slice Ao81 t1367.length co81)) (fun _ hk => hk.2) (.int .i64 t1370)) (fun _ hk => hk.2) (.bool t1371)) (fun _ hk => ⟨hk.1.1.1.1, ⟨hk.1.1.1.2, ⟨hk.1.1.2, hk.1.2⟩⟩⟩)⟩
                  have n2_ : Aside0 (Kd.S k61 61 ((((((((w79.setCell ⟨gb1373, 0, none⟩ (.int .i64 t1362)).setCell ⟨gb1373, 1, none⟩ (.int .i64 t1363)).setCell ⟨gb1373, 2, none⟩ (.int .i64 t1364)).setCell ⟨gb1373, 3, none⟩ (.int .i64 t1365)).setCell ⟨gb1373, 4, none⟩ (.int .i64 t1366)).setCell ⟨gb1373, 5, none⟩ (.slice Ao81 t1367.length co81)).setCell ⟨gb1373, 6, none⟩ (.int .i64 t1370)).setCell ⟨gb1373, 7, none⟩ (.bool t1371)) w.heap.size (fun k_ => some k_ ≠ (.slice Ao56 t1326.length co56 : Value).ownBlock ∧ some k_ ≠ (.slice (some ad1361) x4_1.length co77 : Value).ownBlock ∧ some k_ ≠ (.slice Ao81 t1367.length co81 : Value).ownBlock ∧ k_ ≠ gb1373) u5 x5_1) := ⟨by (with_reducible repeat (first | apply Kd.S_alloc | apply Kd.S_drewN | apply Kd.S_drew)); exact Kd.S_mono (Kd.S_far (p := ⟨gb1373, 7, none⟩) (Kd.S_far (p := ⟨gb1373, 6, none⟩) (Kd.S_far (p := ⟨gb1373, 5, none⟩) (Kd.S_far (p := ⟨gb1373, 4, none⟩) (Kd.S_far (p := ⟨gb1373, 3, none⟩) (Kd.S_far (p := ⟨gb1373, 2, none⟩) (Kd.S_far (p := ⟨gb1373, 1, none⟩) (Kd.S_far (p := ⟨gb1373, 0, none⟩) (Kd.S_mono HO_5.out (fun k_ hk => (⟨hk, hk.2⟩ : _ ∧ k_ ≠ gb1373))) (fun _ hk => hk.2) (.int .i64 t1362)) (fun _ hk => hk.2) (.int .i64 t1363)) (fun _ hk => hk.2) (.int .i64 t1364)) (fun _ hk => hk.2) (.int .i64 t1365)) (fun _ hk => hk.2) (.int .i64 t1366)) (fun _ hk => hk.2) (.slice Ao81 t1367.length co81)) (fun _ hk => hk.2) (.int .i64 t1370)) (fun _ hk => hk.2) (.bool t1371)) (fun _ hk => ⟨hk.1.1.1.1, ⟨hk.1.1.1.2, ⟨hk.1.1.2, hk.1.2⟩⟩⟩)⟩
                  have n3_ : Aside0 (Kd.R k127 127 ((((((((w79.setCell ⟨gb1373, 0, none⟩ (.int .i64 t1362)).setCell ⟨gb1373, 1, none⟩ (.int .i64 t1363)).setCell ⟨gb1373, 2, none⟩ (.int .i64 t1364)).setCell ⟨gb1373, 3, none⟩ (.int .i64 t1365)).setCell ⟨gb1373, 4, none⟩ (.int .i64 t1366)).setCell ⟨gb1373, 5, none⟩ (.slice Ao81 t1367.length co81)).setCell ⟨gb1373, 6, none⟩ (.int .i64 t1370)).setCell ⟨gb1373, 7, none⟩ (.bool t1371)) w.heap.size (fun k_ => some k_ ≠ (.slice Ao56 t1326.length co56 : Value).ownBlock ∧ some k_ ≠ (.slice (some ad1361) x4_1.length co77 : Value).ownBlock ∧ some k_ ≠ (u5 : Value).ownBlock ∧ some k_ ≠ (.slice Ao81 t1367.length co81 : Value).ownBlock) (.slice A1361_5 ((rd_T61 x4_1 x9_3).f5).length c1361_5) ((rd_T61 x4_1 x9_3).f5)) := ⟨by (with_reducible repeat (first | apply Kd.R_alloc | apply Kd.R_drewN | apply Kd.R_drew)); exact Kd.R_mono (Kd.R_far (p := ⟨gb1373, 7, none⟩) (Kd.R_far (p := ⟨gb1373, 6, none⟩) (Kd.R_far (p := ⟨gb1373, 5, none⟩) (Kd.R_far (p := ⟨gb1373, 4, none⟩) (Kd.R_far (p := ⟨gb1373, 3, none⟩) (Kd.R_far (p := ⟨gb1373, 2, none⟩) (Kd.R_far (p := ⟨gb1373, 1, none⟩) (Kd.R_far (p := ⟨gb1373, 0, none⟩) (Kd.R_types HL1361_5.out BK1373.out (by decide)) (fun _ hk => hk.2) (.int .i64 t1362)) (fun _ hk => hk.2) (.int .i64 t1363)) (fun _ hk => hk.2) (.int .i64 t1364)) (fun _ hk => hk.2) (.int .i64 t1365)) (fun _ hk => hk.2) (.int .i64 t1366)) (fun _ hk => hk.2) (.slice Ao81 t1367.length co81)) (fun _ hk => hk.2) (.int .i64 t1370)) (fun _ hk => hk.2) (.bool t1371)) (fun _ hk => ⟨hk.1.1.1.1, ⟨hk.1.1.2, ⟨hk.1.1.1.2, hk.1.2⟩⟩⟩)⟩
                  have n4_ : Aside0 (Kd.R k127 127 ((((((((w79.setCell ⟨gb1373, 0, none⟩ (.int .i64 t1362)).setCell ⟨gb1373, 1, none⟩ (.int .i64 t1363)).setCell ⟨gb1373, 2, none⟩ (.int .i64 t1364)).setCell ⟨gb1373, 3, none⟩ (.int .i64 t1365)).setCell ⟨gb1373, 4, none⟩ (.int .i64 t1366)).setCell ⟨gb1373, 5, none⟩ (.slice Ao81 t1367.length co81)).setCell ⟨gb1373, 6, none⟩ (.int .i64 t1370)).setCell ⟨gb1373, 7, none⟩ (.bool t1371)) w.heap.size (fun k_ => some k_ ≠ (.slice A1361_5 ((rd_T61 x4_1 x9_3).f5).length c1361_5 : Value).ownBlock) (.slice Ao81 t1367.length co81) t1367) := ⟨by (with_reducible repeat (first | apply Kd.R_alloc | apply Kd.R_drewN | apply Kd.R_drew)); exact Kd.R_mono (Kd.R_far (p := ⟨gb1373, 7, none⟩) (Kd.R_far (p := ⟨gb1373, 6, none⟩) (Kd.R_far (p := ⟨gb1373, 5, none⟩) (Kd.R_far (p := ⟨gb1373, 4, none⟩) (Kd.R_far (p := ⟨gb1373, 3, none⟩) (Kd.R_far (p := ⟨gb1373, 2, none⟩) (Kd.R_far (p := ⟨gb1373, 1, none⟩) (Kd.R_far (p := ⟨gb1373, 0, none⟩) (Kd.R_types HO1369.out BK1373.out (by decide)) (fun _ hk => hk.2) (.int .i64 t1362)) (fun _ hk => hk.2) (.int .i64 t1363)) (fun _ hk => hk.2) (.int .i64 t1364)) (fun _ hk => hk.2) (.int .i64 t1365)) (fun _ hk => hk.2) (.int .i64 t1366)) (fun _ hk => hk.2) (.slice Ao81 t1367.length co81)) (fun _ hk => hk.2) (.int .i64 t1370)) (fun _ hk => hk.2) (.bool t1371)) (fun _ hk => hk.1.2)⟩
                  have n5_ : Aside0 (((((((((w79.setCell ⟨gb1373, 0, none⟩ (.int .i64 t1362)).setCell ⟨gb1373, 1, none⟩ (.int .i64 t1363)).setCell ⟨gb1373, 2, none⟩ (.int .i64 t1364)).setCell ⟨gb1373, 3, none⟩ (.int .i64 t1365)).setCell ⟨gb1373, 4, none⟩ (.int .i64 t1366)).setCell ⟨gb1373, 5, none⟩ (.slice Ao81 t1367.length co81)).setCell ⟨gb1373, 6, none⟩ (.int .i64 t1370)).setCell ⟨gb1373, 7, none⟩ (.bool t1371)).heap[gb1373]? = some (.cells #[.int .i64 t1362, .int .i64 t1363, .int .i64 t1364, .int .i64 t1365, .int .i64 t1366, .slice Ao81 t1367.length co81, .int .i64 t1370, .bool t1371] 61 (0, 0))) := ⟨by refine bz_ ?_; refine blk_put (cs := #[.int .i64 t1362, .int .i64 t1363, .int .i64 t1364, .int .i64 t1365, .int .i64 t1366, .slice Ao81 t1367.length co81, .int .i64 t1370, .bool false]) ?_ 7 _ rfl; refine bz_ ?_; refine blk_put (cs := #[.int .i64 t1362, .int .i64 t1363, .int .i64 t1364, .int .i64 t1365, .int .i64 t1366, .slice Ao81 t1367.length co81, .int .i64 0, .bool false]) ?_ 6 _ rfl; refine bz_ ?_; refine blk_put (cs := #[.int .i64 t1362, .int .i64 t1363, .int .i64 t1364, .int .i64 t1365, .int .i64 t1366, .slice none 0 0, .int .i64 0, .bool false]) ?_ 5 _ rfl; refine bz_ ?_; refine blk_put (cs := #[.int .i64 t1362, .int .i64 t1363, .int .i64 t1364, .int .i64 t1365, .int .i64 0, .slice none 0 0, .int .i64 0, .bool false]) ?_ 4 _ rfl; refine bz_ ?_; refine blk_put (cs := #[.int .i64 t1362, .int .i64 t1363, .int .i64 t1364, .int .i64 0, .int .i64 0, .slice none 0 0, .int .i64 0, .bool false]) ?_ 3 _ rfl; refine bz_ ?_; refine blk_put (cs := #[.int .i64 t1362, .int .i64 t1363, .int .i64 0, .int .i64 0, .int .i64 0, .slice none 0 0, .int .i64 0, .bool false]) ?_ 2 _ rfl; refine bz_ ?_; refine blk_put (cs := #[.int .i64 t1362, .int .i64 0, .int .i64 0, .int .i64 0, .int .i64 0, .slice none 0 0, .int .i64 0, .bool false]) ?_ 1 _ rfl; refine bz_ ?_; refine blk_put (cs := #[.int .i64 0, .int .i64 0, .int .i64 0, .int .i64 0, .int .i64 0, .slice none 0 0, .int .i64 0, .bool false]) ?_ 0 _ rfl; refine bz_ ?_; exact BK1373.out⟩
                  have n6_ : Aside0 (Below w.heap.size w ((((((((w79.setCell ⟨gb1373, 0, none⟩ (.int .i64 t1362)).setCell ⟨gb1373, 1, none⟩ (.int .i64 t1363)).setCell ⟨gb1373, 2, none⟩ (.int .i64 t1364)).setCell ⟨gb1373, 3, none⟩ (.int .i64 t1365)).setCell ⟨gb1373, 4, none⟩ (.int .i64 t1366)).setCell ⟨gb1373, 5, none⟩ (.slice Ao81 t1367.length co81)).setCell ⟨gb1373, 6, none⟩ (.int .i64 t1370)).setCell ⟨gb1373, 7, none⟩ (.bool t1371))) := ⟨bw_q HB⟩
                  (try clear HO_3)
                  (try clear HO_4)
                  (try clear HO_5)
                  (try clear HL1361_5)
                  (try clear HO1369)
                  (try clear BK1373)
                  (try clear HB)
                  generalize ((((((((w79.setCell ⟨gb1373, 0, none⟩ (.int .i64 t1362)).setCell ⟨gb1373, 1, none⟩ (.int .i64 t1363)).setCell ⟨gb1373, 2, none⟩ (.int .i64 t1364)).setCell ⟨gb1373, 3, none⟩ (.int .i64 t1365)).setCell ⟨gb1373, 4, none⟩ (.int .i64 t1366)).setCell ⟨gb1373, 5, none⟩ (.slice Ao81 t1367.length co81)).setCell ⟨gb1373, 6, none⟩ (.int .i64 t1370)).setCell ⟨gb1373, 7, none⟩ (.bool t1371)) = w82 at n0_ n1_ n2_ n3_ n4_ n5_ n6_ ⊢
                  have HO_3 := n0_
                  have HO_4 := n1_
                  have HO_5 := n2_
                  have HL1361_5 := n3_
                  have HO1369 := n4_
                  have BK1373 := n5_
                  have HB := n6_
                  clear n0_ n1_ n2_ n3_ n4_ n5_ n6_
                  replace HO_3 := Aside0.mk (Kd.S_drew HO_3.out)
                  replace HO_4 := Aside0.mk (Kd.S_drew HO_4.out)
                  replace HO_5 := Aside0.mk (Kd.S_drew HO_5.out)
                  replace HL1361_5 := Aside0.mk (Kd.R_drew HL1361_5.out)
                  replace HO1369 := Aside0.mk (Kd.R_drew HO1369.out)
                  replace BK1373 := Aside0.mk (blk_drew BK1373.out)
                  replace HB := Aside0.mk (below_drew1 HB.out)
                  have p1374 : 0 ≤ (x9_3 : Int) := of_decide_eq_true as_q
                  have q1374 : x9_3 < (x4_1.length : Int) := of_decide_eq_true as_q
                  obtain ⟨ad1374, A1374_5, c1374_5, e1374, hx1374_0, hx1374_1, hx1374_2, hx1374_3, hx1374_4, hx1374_5, hx1374_6, hx1374_7, hl1374_5, hi1374_5⟩ := at_T61 (Kd.S_reads' HO_4.out).2.2 x9_3 p1374 q1374
                  obtain rfl : ad1361 = ad1374 := (by injection e1374)
                  obtain ⟨ce1374, hce1374, hMe1374, hcc1374⟩ := Kd.S_get HO_4.out z61 x9_3 p1374 (by first | exact q1374 | exact of_decide_eq_true as_q | (have e_ := (Kd.S_reads' HO_4.out).1; omega))
                  obtain ⟨ve1374_5, rfl, ge1374_5⟩ := k61_openM hMe1374
                  have hv1374_5 := hcc1374 5 _ rfl
                  rw [add_field _ _ 5 (by omega)] at hv1374_5
                  replace hv1374_5 := Option.some.inj (hv1374_5.symm.trans hx1374_5)
                  rw [hv1374_5] at ge1374_5
                  have HL1374_5 := Aside0.mk (show Kd.R k127 127 _ _ _ _ ((rd_T61 x4_1 x9_3).f5) from ge1374_5)
                  clear hv1374_5 ge1374_5
                  clear hcc1374 hce1374
                  have HR1374_5 := Aside0.mk hi1374_5
                  have HC1374_5 := Aside0.mk hl1374_5
                  clear hi1374_5 hl1374_5
                  replace p1374 := eq_true p1374
                  replace q1374 := eq_true q1374
                  have p1376 : 0 ≤ (x9_3 : Int) := of_decide_eq_true as_q
                  have q1376 : x9_3 < (x4_1.length : Int) := of_decide_eq_true as_q
                  obtain ⟨ad1376, A1376_5, c1376_5, e1376, hx1376_0, hx1376_1, hx1376_2, hx1376_3, hx1376_4, hx1376_5, hx1376_6, hx1376_7, hl1376_5, hi1376_5⟩ := at_T61 (Kd.S_reads' HO_4.out).2.2 x9_3 p1376 q1376
                  obtain rfl : ad1361 = ad1376 := (by injection e1376)
                  have eu_ := Option.some.inj (hx1374_5.symm.trans hx1376_5); injection eu_ with eu1_ eu2_ eu3_; clear eu2_; subst eu1_; subst eu3_
                  obtain ⟨ce1376, hce1376, hMe1376, hcc1376⟩ := Kd.S_get HO_4.out z61 x9_3 p1376 (by first | exact q1376 | exact of_decide_eq_true as_q | (have e_ := (Kd.S_reads' HO_4.out).1; omega))
                  obtain ⟨ve1376_5, rfl, ge1376_5⟩ := k61_openM hMe1376
                  have hv1376_5 := hcc1376 5 _ rfl
                  rw [add_field _ _ 5 (by omega)] at hv1376_5
                  replace hv1376_5 := Option.some.inj (hv1376_5.symm.trans hx1376_5)
                  rw [hv1376_5] at ge1376_5
                  have HL1376_5 := Aside0.mk (show Kd.R k127 127 _ _ _ _ ((rd_T61 x4_1 x9_3).f5) from ge1376_5)
                  clear hv1376_5 ge1376_5
                  clear hcc1376 hce1376
                  have HR1376_5 := Aside0.mk hi1376_5
                  have HC1376_5 := Aside0.mk hl1376_5
                  clear hi1376_5 hl1376_5
                  replace p1376 := eq_true p1376
                  replace q1376 := eq_true q1376
                  have p1377 : 0 ≤ (x9_3 : Int) := of_decide_eq_true as_q
                  have q1377 : x9_3 < (x5_1.length : Int) := of_decide_eq_true as_q
                  obtain ⟨Ao5z, co5z, eo5z⟩ := Kd.S_slice HO_5.out; subst eo5z
                  obtain ⟨ad1377, A1377_5, c1377_5, e1377, hx1377_0, hx1377_1, hx1377_2, hx1377_3, hx1377_4, hx1377_5, hx1377_6, hx1377_7, hl1377_5, hi1377_5⟩ := at_T61 (Kd.S_reads' HO_5.out).2.2 x9_3 p1377 q1377
                  cases e1377
                  obtain ⟨ce1377, hce1377, hMe1377, hcc1377⟩ := Kd.S_get HO_5.out z61 x9_3 p1377 (by first | exact q1377 | exact of_decide_eq_true as_q | (have e_ := (Kd.S_reads' HO_5.out).1; omega))
                  obtain ⟨ve1377_5, rfl, ge1377_5⟩ := k61_openM hMe1377
                  have hv1377_5 := hcc1377 5 _ rfl
                  rw [add_field _ _ 5 (by omega)] at hv1377_5
                  replace hv1377_5 := Option.some.inj (hv1377_5.symm.trans hx1377_5)
                  rw [hv1377_5] at ge1377_5
                  have HL1377_5 := Aside0.mk (show Kd.R k127 127 _ _ _ _ ((rd_T61 x5_1 x9_3).f5) from ge1377_5)
                  clear hv1377_5 ge1377_5
                  clear hcc1377 hce1377
                  have HR1377_5 := Aside0.mk hi1377_5
                  have HC1377_5 := Aside0.mk hl1377_5
                  clear hi1377_5 hl1377_5
                  replace p1377 := eq_true p1377
                  replace q1377 := eq_true q1377
                  have p1379 : 0 ≤ (x9_3 : Int) := of_decide_eq_true as_q
                  have q1379 : x9_3 < (x4_1.length : Int) := of_decide_eq_true as_q
                  obtain ⟨ad1379, A1379_5, c1379_5, e1379, hx1379_0, hx1379_1, hx1379_2, hx1379_3, hx1379_4, hx1379_5, hx1379_6, hx1379_7, hl1379_5, hi1379_5⟩ := at_T61 (Kd.S_reads' HO_4.out).2.2 x9_3 p1379 q1379
                  obtain rfl : ad1361 = ad1379 := (by injection e1379)
                  have eu_ := Option.some.inj (hx1374_5.symm.trans hx1379_5); injection eu_ with eu1_ eu2_ eu3_; clear eu2_; subst eu1_; subst eu3_
                  obtain ⟨ce1379, hce1379, hMe1379, hcc1379⟩ := Kd.S_get HO_4.out z61 x9_3 p1379 (by first | exact q1379 | exact of_decide_eq_true as_q | (have e_ := (Kd.S_reads' HO_4.out).1; omega))
                  obtain ⟨ve1379_5, rfl, ge1379_5⟩ := k61_openM hMe1379
                  have hv1379_5 := hcc1379 5 _ rfl
                  rw [add_field _ _ 5 (by omega)] at hv1379_5
                  replace hv1379_5 := Option.some.inj (hv1379_5.symm.trans hx1379_5)
                  rw [hv1379_5] at ge1379_5
                  have HL1379_5 := Aside0.mk (show Kd.R k127 127 _ _ _ _ ((rd_T61 x4_1 x9_3).f5) from ge1379_5)
                  clear hv1379_5 ge1379_5
                  clear hcc1379 hce1379
                  have HR1379_5 := Aside0.mk hi1379_5
                  have HC1379_5 := Aside0.mk hl1379_5
                  clear hi1379_5 hl1379_5
                  replace p1379 := eq_true p1379
                  replace q1379 := eq_true q1379
                  have p1380 : 0 ≤ (x9_3 : Int) := of_decide_eq_true as_q
                  have q1380 : x9_3 < (x5_1.length : Int) := of_decide_eq_true as_q
                  obtain ⟨ad1380, A1380_5, c1380_5, e1380, hx1380_0, hx1380_1, hx1380_2, hx1380_3, hx1380_4, hx1380_5, hx1380_6, hx1380_7, hl1380_5, hi1380_5⟩ := at_T61 (Kd.S_reads' HO_5.out).2.2 x9_3 p1380 q1380
                  obtain rfl : ad1377 = ad1380 := (by injection e1380)
                  have eu_ := Option.some.inj (hx1377_5.symm.trans hx1380_5); injection eu_ with eu1_ eu2_ eu3_; clear eu2_; subst eu1_; subst eu3_
                  obtain ⟨ce1380, hce1380, hMe1380, hcc1380⟩ := Kd.S_get HO_5.out z61 x9_3 p1380 (by first | exact q1380 | exact of_decide_eq_true as_q | (have e_ := (Kd.S_reads' HO_5.out).1; omega))
                  obtain ⟨ve1380_5, rfl, ge1380_5⟩ := k61_openM hMe1380
                  have hv1380_5 := hcc1380 5 _ rfl
                  rw [add_field _ _ 5 (by omega)] at hv1380_5
                  replace hv1380_5 := Option.some.inj (hv1380_5.symm.trans hx1380_5)
                  rw [hv1380_5] at ge1380_5
                  have HL1380_5 := Aside0.mk (show Kd.R k127 127 _ _ _ _ ((rd_T61 x5_1 x9_3).f5) from ge1380_5)
                  clear hv1380_5 ge1380_5
                  clear hcc1380 hce1380
                  have HR1380_5 := Aside0.mk hi1380_5
                  have HC1380_5 := Aside0.mk hl1380_5
                  clear hi1380_5 hl1380_5
                  replace p1380 := eq_true p1380
                  replace q1380 := eq_true q1380
                  have p1381 : 0 ≤ (x9_3 : Int) := of_decide_eq_true as_q
                  have q1381 : x9_3 < (x4_1.length : Int) := of_decide_eq_true as_q
                  obtain ⟨ad1381, A1381_5, c1381_5, e1381, hx1381_0, hx1381_1, hx1381_2, hx1381_3, hx1381_4, hx1381_5, hx1381_6, hx1381_7, hl1381_5, hi1381_5⟩ := at_T61 (Kd.S_reads' HO_4.out).2.2 x9_3 p1381 q1381
                  obtain rfl : ad1361 = ad1381 := (by injection e1381)
                  obtain ⟨ce1381, hce1381, hMe1381, hcc1381⟩ := Kd.S_get HO_4.out z61 x9_3 p1381 (by first | exact q1381 | exact of_decide_eq_true as_q | (have e_ := (Kd.S_reads' HO_4.out).1; omega))
                  obtain ⟨ve1381_5, rfl, ge1381_5⟩ := k61_openM hMe1381
                  have hv1381_5 := hcc1381 5 _ rfl
                  rw [add_field _ _ 5 (by omega)] at hv1381_5
                  replace hv1381_5 := Option.some.inj (hv1381_5.symm.trans hx1381_5)
                  rw [hv1381_5] at ge1381_5
                  have HL1381_5 := Aside0.mk (show Kd.R k127 127 _ _ _ _ ((rd_T61 x4_1 x9_3).f5) from ge1381_5)
                  clear hv1381_5 ge1381_5
                  clear hcc1381 hce1381
                  have HR1381_5 := Aside0.mk hi1381_5
                  have HC1381_5 := Aside0.mk hl1381_5
                  clear hi1381_5 hl1381_5
                  replace p1381 := eq_true p1381
                  replace q1381 := eq_true q1381
                  have ea_ := Option.some.inj (hx1379_5.symm.trans hx1381_5)
                  injection ea_ with ea_ en_ ec_
                  subst ea_
                  subst ec_
                  clear en_
                  have p1382 : 0 ≤ (x9_3 : Int) := of_decide_eq_true as_q
                  have q1382 : x9_3 < (x4_1.length : Int) := of_decide_eq_true as_q
                  obtain ⟨ad1382, A1382_5, c1382_5, e1382, hx1382_0, hx1382_1, hx1382_2, hx1382_3, hx1382_4, hx1382_5, hx1382_6, hx1382_7, hl1382_5, hi1382_5⟩ := at_T61 (Kd.S_reads' HO_4.out).2.2 x9_3 p1382 q1382
                  obtain rfl : ad1361 = ad1382 := (by injection e1382)
                  obtain ⟨ce1382, hce1382, hMe1382, hcc1382⟩ := Kd.S_get HO_4.out z61 x9_3 p1382 (by first | exact q1382 | exact of_decide_eq_true as_q | (have e_ := (Kd.S_reads' HO_4.out).1; omega))
                  obtain ⟨ve1382_5, rfl, ge1382_5⟩ := k61_openM hMe1382
                  have hv1382_5 := hcc1382 5 _ rfl
                  rw [add_field _ _ 5 (by omega)] at hv1382_5
                  replace hv1382_5 := Option.some.inj (hv1382_5.symm.trans hx1382_5)
                  rw [hv1382_5] at ge1382_5
                  have HL1382_5 := Aside0.mk (show Kd.R k127 127 _ _ _ _ ((rd_T61 x4_1 x9_3).f5) from ge1382_5)
                  clear hv1382_5 ge1382_5
                  clear hcc1382 hce1382
                  have HR1382_5 := Aside0.mk hi1382_5
                  have HC1382_5 := Aside0.mk hl1382_5
                  clear hi1382_5 hl1382_5
                  replace p1382 := eq_true p1382
                  replace q1382 := eq_true q1382
                  have ea_ := Option.some.inj (hx1379_5.symm.trans hx1382_5)
                  injection ea_ with ea_ en_ ec_
                  subst ea_
                  subst ec_
                  clear en_
                  refine start_ (n := 50) (S := fun w' => w'.cell? ⟨gb1373, 0, none⟩ = some (.int .i64 t1362) ∧ w'.cell? ⟨gb1373, 1, none⟩ = some (.int .i64 t1363) ∧ w'.cell? ⟨gb1373, 2, none⟩ = some (.int .i64 t1364) ∧ w'.cell? ⟨gb1373, 3, none⟩ = some (.int .i64 t1365) ∧ w'.cell? ⟨gb1373, 4, none⟩ = some (.int .i64 t1366) ∧ w'.cell? ⟨gb1373, 5, none⟩ = some (.slice Ao81 t1367.length co81) ∧ w'.cell? ⟨gb1373, 6, none⟩ = some (.int .i64 t1370) ∧ w'.cell? ⟨gb1373, 7, none⟩ = some (.bool t1371) ∧ w'.cell? (ad1361.add ((x9_3).toNat * 8)) = some (.int .i64 ((rd_T61 x4_1 x9_3).f0)) ∧ w'.cell? ⟨(ad1361.add ((x9_3).toNat * 8)).block, (ad1361.add ((x9_3).toNat * 8)).off + 1, none⟩ = some (.int .i64 ((rd_T61 x4_1 x9_3).f1)) ∧ w'.cell? ⟨(ad1361.add ((x9_3).toNat * 8)).block, (ad1361.add ((x9_3).toNat * 8)).off + 2, none⟩ = some (.int .i64 ((rd_T61 x4_1 x9_3).f2)) ∧ w'.cell? ⟨(ad1361.add ((x9_3).toNat * 8)).block, (ad1361.add ((x9_3).toNat * 8)).off + 3, none⟩ = some (.int .i64 ((rd_T61 x4_1 x9_3).f3)) ∧ w'.cell? ⟨(ad1361.add ((x9_3).toNat * 8)).block, (ad1361.add ((x9_3).toNat * 8)).off + 4, none⟩ = some (.int .i64 ((rd_T61 x4_1 x9_3).f4)) ∧ w'.cell? ⟨(ad1361.add ((x9_3).toNat * 8)).block, (ad1361.add ((x9_3).toNat * 8)).off + 5, none⟩ = some (.slice A1374_5 ((rd_T61 x4_1 x9_3).f5).length c1374_5) ∧ w'.cell? ⟨(ad1361.add ((x9_3).toNat * 8)).block, (ad1361.add ((x9_3).toNat * 8)).off + 6, none⟩ = some (.int .i64 ((rd_T61 x4_1 x9_3).f6)) ∧ w'.cell? ⟨(ad1361.add ((x9_3).toNat * 8)).block, (ad1361.add ((x9_3).toNat * 8)).off + 7, none⟩ = some (.bool ((rd_T61 x4_1 x9_3).f7)) ∧ w'.cell? (ad1377.add ((x9_3).toNat * 8)) = some (.int .i64 ((rd_T61 x5_1 x9_3).f0)) ∧ w'.cell? ⟨(ad1377.add ((x9_3).toNat * 8)).block, (ad1377.add ((x9_3).toNat * 8)).off + 1, none⟩ = some (.int .i64 ((rd_T61 x5_1 x9_3).f1)) ∧ w'.cell? ⟨(ad1377.add ((x9_3).toNat * 8)).block, (ad1377.add ((x9_3).toNat * 8)).off + 2, none⟩ = some (.int .i64 ((rd_T61 x5_1 x9_3).f2)) ∧ w'.cell? ⟨(ad1377.add ((x9_3).toNat * 8)).block, (ad1377.add ((x9_3).toNat * 8)).off + 3, none⟩ = some (.int .i64 ((rd_T61 x5_1 x9_3).f3)) ∧ w'.cell? ⟨(ad1377.add ((x9_3).toNat * 8)).block, (ad1377.add ((x9_3).toNat * 8)).off + 4, none⟩ = some (.int .i64 ((rd_T61 x5_1 x9_3).f4)) ∧ w'.cell? ⟨(ad1377.add ((x9_3).toNat * 8)).block, (ad1377.add ((x9_3).toNat * 8)).off + 5, none⟩ = some (.slice A1377_5 ((rd_T61 x5_1 x9_3).f5).length c1377_5) ∧ w'.cell? ⟨(ad1377.add ((x9_3).toNat * 8)).block, (ad1377.add ((x9_3).toNat * 8)).off + 6, none⟩ = some (.int .i64 ((rd_T61 x5_1 x9_3).f6)) ∧ w'.cell? ⟨(ad1377.add ((x9_3).toNat * 8)).block, (ad1377.add ((x9_3).toNat * 8)).off + 7, none⟩ = some (.bool ((rd_T61 x5_1 x9_3).f7))) (ds := []) (bL 50 0) (by kernel_rfl) rfl rfl ⟨(blk_cell BK1373.out 0).trans rfl, (blk_cell BK1373.out 1).trans rfl, (blk_cell BK1373.out 2).trans rfl, (blk_cell BK1373.out 3).trans rfl, (blk_cell BK1373.out 4).trans rfl, (blk_cell BK1373.out 5).trans rfl, (blk_cell BK1373.out 6).trans rfl, (blk_cell BK1373.out 7).trans rfl, hx1374_0, hx1374_1, hx1374_2, hx1374_3, hx1374_4, hx1374_5, hx1374_6, hx1374_7, hx1377_0, hx1377_1, hx1377_2, hx1377_3, hx1377_4, hx1377_5, hx1377_6, hx1377_7⟩ (fun hHeld => ?_); refine with_tabW laws_FnStores.tab23 laws_FnStores.bits23 (fun HT_ HW_ => ?_)
                  generalize w82.drew = w83 at HO_3 HO_4 HO_5 HL1361_5 HO1369 BK1373 HB HL1374_5 HL1376_5 HL1377_5 HL1379_5 HL1380_5 HL1381_5 HL1382_5 HR1374_5 HR1376_5 HR1377_5 HR1379_5 HR1380_5 HR1381_5 HR1382_5 hx1374_0 hx1374_1 hx1374_2 hx1374_3 hx1374_4 hx1374_5 hx1374_6 hx1374_7 hx1376_0 hx1376_1 hx1376_2 hx1376_3 hx1376_4 hx1376_5 hx1376_6 hx1376_7 hx1377_0 hx1377_1 hx1377_2 hx1377_3 hx1377_4 hx1377_5 hx1377_6 hx1377_7 hx1379_0 hx1379_1 hx1379_2 hx1379_3 hx1379_4 hx1379_5 hx1379_6 hx1379_7 hx1380_0 hx1380_1 hx1380_2 hx1380_3 hx1380_4 hx1380_5 hx1380_6 hx1380_7 hx1381_0 hx1381_1 hx1381_2 hx1381_3 hx1381_4 hx1381_5 hx1381_6 hx1381_7 hx1382_0 hx1382_1 hx1382_2 hx1382_3 hx1382_4 hx1382_5 hx1382_6 hx1382_7 hHeld ⊢
                  refine pq_ 0 90 (bL 50 1) HT_.out rfl rfl ?_
                  refine pq_ 1 91 (bL 50 3) HT_.out rfl rfl ?_
                  refine pq_ 2 92 (bL 50 7) HT_.out rfl rfl ?_
                  refine pq_ 4 94 (bL 50 23) HT_.out rfl rfl ?_
                  refine pq_ 5 95 (bL 50 55) HT_.out rfl rfl ?_
                  refine pq_ 6 96 (bL 50 119) HT_.out rfl rfl ?_
                  refine take_ (i := 3) (N := some 93) (v := ?_) (a' := ?_) (bL 50 127) rfl rfl (take_ofW HT_.out HW_.out (by kernel_rfl)) (fun _ _ _ h => h) (Or.inl ⟨by rfl, ?_⟩) hHeld ?_ ?_; rotate_left; (rintro w' ⟨s0, s1, s2, s3, s4, s5, s6, s7, s8, s9, s10, s11, s12, s13, s14, s15, s16, s17, s18, s19, s20, s21, s22, s23⟩; go_simp; with_reducible rfl); rotate_left; (exact put_q)
                  refine take_ (i := 7) (N := some 97) (v := ?_) (a' := ?_) (bL 50 255) rfl rfl (take_ofW HT_.out HW_.out (by kernel_rfl)) (fun _ _ _ h => h) (Or.inl ⟨by rfl, ?_⟩) hHeld ?_ ?_; rotate_left; (rintro w' ⟨s0, s1, s2, s3, s4, s5, s6, s7, s8, s9, s10, s11, s12, s13, s14, s15, s16, s17, s18, s19, s20, s21, s22, s23⟩; go_simp; with_reducible rfl); rotate_left; (exact put_q)
                  refine one_ (i := 8) (N := some 98) (bL 50 511) rfl rfl (one_of HT_.out (by kernel_rfl)) (by decide) (fun K hK => ?_)
                  refine goes_ Try.func51 (by kernel_rfl) rfl #[.agg #[.int .i64 t1362, .int .i64 t1363, .int .i64 t1364, .int .i64 t1365, .int .i64 t1366, .slice Ao81 t1367.length co81, .int .i64 t1370, .bool t1371], .agg #[.int .i64 ((rd_T61 x4_1 x9_3).f0), .int .i64 ((rd_T61 x4_1 x9_3).f1), .int .i64 ((rd_T61 x4_1 x9_3).f2), .int .i64 ((rd_T61 x4_1 x9_3).f3), .int .i64 ((rd_T61 x4_1 x9_3).f4), .slice A1374_5 ((rd_T61 x4_1 x9_3).f5).length c1374_5, .int .i64 ((rd_T61 x4_1 x9_3).f6), .bool ((rd_T61 x4_1 x9_3).f7)]] (by rfl) rfl rfl mp_q ?_
                  with_reducible refine (laws_same.calls k3 t1362 t1363 t1364 t1365 t1366 _ _ t1367 t1370 t1371 ((rd_T61 x4_1 x9_3).f0) ((rd_T61 x4_1 x9_3).f1) ((rd_T61 x4_1 x9_3).f2) ((rd_T61 x4_1 x9_3).f3) ((rd_T61 x4_1 x9_3).f4) _ _ ((rd_T61 x4_1 x9_3).f5) ((rd_T61 x4_1 x9_3).f6) ((rd_T61 x4_1 x9_3).f7) true _ ?side1 ?side2 ?side3 ?side4 A69.out).mono ?_
                  (case side1 => repeat (first | exact (Kd.R_reads' HO1369.out).2.2 | (with_reducible refine Kd.C_alloc ?_ _) | (with_reducible refine Kd.C_drewN ?_ _) | (with_reducible refine Kd.C_drew ?_)))
                  (case side2 => exact (Kd.R_reads' HO1369.out).2.1)
                  (case side3 => repeat (first | exact (by repeat (first | (with_reducible exact HR1374_5.out) | (with_reducible refine Kd.C_alloc ?_ _) | (with_reducible refine Kd.C_drewN ?_ _) | (with_reducible refine Kd.C_drew ?_) | exact HR1374_5.out)) | (with_reducible refine Kd.C_alloc ?_ _) | (with_reducible refine Kd.C_drewN ?_ _) | (with_reducible refine Kd.C_drew ?_)))
                  (case side4 => exact HC1374_5.out)
                  rintro e w84 ⟨rfl, hb⟩
                  have HS8_ := (hb.cell (World.block_lt_of_cell? _ _ (hHeld.2.2.2.2.2.2.2.2.1))).trans (hHeld.2.2.2.2.2.2.2.2.1)
                  have HS9_ := (hb.cell (World.block_lt_of_cell? _ _ (hHeld.2.2.2.2.2.2.2.2.2.1))).trans (hHeld.2.2.2.2.2.2.2.2.2.1)
                  have HS10_ := (hb.cell (World.block_lt_of_cell? _ _ (hHeld.2.2.2.2.2.2.2.2.2.2.1))).trans (hHeld.2.2.2.2.2.2.2.2.2.2.1)
                  have HS11_ := (hb.cell (World.block_lt_of_cell? _ _ (hHeld.2.2.2.2.2.2.2.2.2.2.2.1))).trans (hHeld.2.2.2.2.2.2.2.2.2.2.2.1)
                  have HS12_ := (hb.cell (World.block_lt_of_cell? _ _ (hHeld.2.2.2.2.2.2.2.2.2.2.2.2.1))).trans (hHeld.2.2.2.2.2.2.2.2.2.2.2.2.1)
                  have HS13_ := (hb.cell (World.block_lt_of_cell? _ _ (hHeld.2.2.2.2.2.2.2.2.2.2.2.2.2.1))).trans (hHeld.2.2.2.2.2.2.2.2.2.2.2.2.2.1)
                  have HS14_ := (hb.cell (World.block_lt_of_cell? _ _ (hHeld.2.2.2.2.2.2.2.2.2.2.2.2.2.2.1))).trans (hHeld.2.2.2.2.2.2.2.2.2.2.2.2.2.2.1)
                  have HS15_ := (hb.cell (World.block_lt_of_cell? _ _ (hHeld.2.2.2.2.2.2.2.2.2.2.2.2.2.2.2.1))).trans (hHeld.2.2.2.2.2.2.2.2.2.2.2.2.2.2.2.1)
                  have HS24_ := (hb.cell (World.block_lt_of_cell? _ _ (hHeld.2.2.2.2.2.2.2.2.2.2.2.2.2.2.2.2.1))).trans (hHeld.2.2.2.2.2.2.2.2.2.2.2.2.2.2.2.2.1)
                  have HS25_ := (hb.cell (World.block_lt_of_cell? _ _ (hHeld.2.2.2.2.2.2.2.2.2.2.2.2.2.2.2.2.2.1))).trans (hHeld.2.2.2.2.2.2.2.2.2.2.2.2.2.2.2.2.2.1)
                  have HS26_ := (hb.cell (World.block_lt_of_cell? _ _ (hHeld.2.2.2.2.2.2.2.2.2.2.2.2.2.2.2.2.2.2.1))).trans (hHeld.2.2.2.2.2.2.2.2.2.2.2.2.2.2.2.2.2.2.1)
                  have HS27_ := (hb.cell (World.block_lt_of_cell? _ _ (hHeld.2.2.2.2.2.2.2.2.2.2.2.2.2.2.2.2.2.2.2.1))).trans (hHeld.2.2.2.2.2.2.2.2.2.2.2.2.2.2.2.2.2.2.2.1)
                  have HS28_ := (hb.cell (World.block_lt_of_cell? _ _ (hHeld.2.2.2.2.2.2.2.2.2.2.2.2.2.2.2.2.2.2.2.2.1))).trans (hHeld.2.2.2.2.2.2.2.2.2.2.2.2.2.2.2.2.2.2.2.2.1)
                  have HS29_ := (hb.cell (World.block_lt_of_cell? _ _ (hHeld.2.2.2.2.2.2.2.2.2.2.2.2.2.2.2.2.2.2.2.2.2.1))).trans (hHeld.2.2.2.2.2.2.2.2.2.2.2.2.2.2.2.2.2.2.2.2.2.1)
                  have HS30_ := (hb.cell (World.block_lt_of_cell? _ _ (hHeld.2.2.2.2.2.2.2.2.2.2.2.2.2.2.2.2.2.2.2.2.2.2.1))).trans (hHeld.2.2.2.2.2.2.2.2.2.2.2.2.2.2.2.2.2.2.2.2.2.2.1)
                  have HS31_ := (hb.cell (World.block_lt_of_cell? _ _ (hHeld.2.2.2.2.2.2.2.2.2.2.2.2.2.2.2.2.2.2.2.2.2.2.2))).trans (hHeld.2.2.2.2.2.2.2.2.2.2.2.2.2.2.2.2.2.2.2.2.2.2.2)
                  refine ⟨_, rfl, ?_⟩
                  replace HO_3 := Aside0.mk (Kd.S_below (kS_q HO_3) hb)
                  replace HO_4 := Aside0.mk (Kd.S_below (kS_q HO_4) hb)
                  replace HO_5 := Aside0.mk (Kd.S_below (kS_q HO_5) hb)
                  replace HL1361_5 := Aside0.mk (Kd.R_below (kR_q HL1361_5) hb)
                  replace HO1369 := Aside0.mk (Kd.R_below (kR_q HO1369) hb)
                  replace HL1374_5 := Aside0.mk (Kd.R_below (kR_q HL1374_5) hb)
                  replace BK1373 := Aside0.mk (blk_below (g := gb1373) (bk_q BK1373) hb)
                  replace HR1374_5 := Aside0.mk (Kd.C_below (by repeat (first | (with_reducible exact HR1374_5.out) | (with_reducible refine Kd.C_alloc ?_ _) | (with_reducible refine Kd.C_drewN ?_ _) | (with_reducible refine Kd.C_drew ?_) | exact HR1374_5.out)) hb)
                  replace HL1376_5 := Aside0.mk (Kd.R_below HL1376_5.out hb)
                  replace HL1377_5 := Aside0.mk (Kd.R_below HL1377_5.out hb)
                  replace HL1379_5 := Aside0.mk (Kd.R_below HL1379_5.out hb)
                  replace HL1380_5 := Aside0.mk (Kd.R_below HL1380_5.out hb)
                  replace HL1381_5 := Aside0.mk (Kd.R_below HL1381_5.out hb)
                  replace HL1382_5 := Aside0.mk (Kd.R_below HL1382_5.out hb)
                  replace HR1376_5 := Aside0.mk (Kd.C_below HR1376_5.out hb)
                  replace HR1377_5 := Aside0.mk (Kd.C_below HR1377_5.out hb)
                  replace HR1379_5 := Aside0.mk (Kd.C_below HR1379_5.out hb)
                  replace HR1380_5 := Aside0.mk (Kd.C_below HR1380_5.out hb)
                  replace HR1381_5 := Aside0.mk (Kd.C_below HR1381_5.out hb)
                  replace HR1382_5 := Aside0.mk (Kd.C_below HR1382_5.out hb)
                  replace HB := Aside0.mk (below_step (bw_q HB) hb)
                  (try clear hb)
                  (try clear hb2)
                  (try clear hk)
                  (try clear hi)
                  obtain ⟨Ao85, co85, eo85⟩ := Kd.S_slice HO_5.out
                  (first | subst eo85 | (injection eo85 with f1_ f2_ f3_; have f4_ := f1_.symm; have f5_ := f3_.symm; clear f1_ f2_ f3_; subst f4_; subst f5_))
                  refine hK.out _ _ ⟨(blk_cell BK1373.out 0).trans rfl, (blk_cell BK1373.out 1).trans rfl, (blk_cell BK1373.out 2).trans rfl, (blk_cell BK1373.out 3).trans rfl, (blk_cell BK1373.out 4).trans rfl, (blk_cell BK1373.out 5).trans rfl, (blk_cell BK1373.out 6).trans rfl, (blk_cell BK1373.out 7).trans rfl, HS8_, HS9_, HS10_, HS11_, HS12_, HS13_, HS14_, HS15_, HS24_, HS25_, HS26_, HS27_, HS28_, HS29_, HS30_, HS31_⟩ (fun hHeld => ?_)
                  clear hK K
                  refine norm_ (a' := ?_) ?_ ?_; rotate_left; (show Act.put _ (some 98) _ = _; simp only [Act.put, List.setIfInBounds_toArray, List.set_cons_zero, List.set_cons_succ, i64_w, i32_w]; rfl)
                  refine pq_ 9 99 (bL 50 1023) HT_.out rfl rfl ?_
                  refine pq_ 10 100 (bL 50 2047) HT_.out rfl rfl ?_
                  refine pq_ 11 101 (bL 50 4095) HT_.out rfl rfl ?_
                  refine pq_ 12 102 (bL 50 8191) HT_.out rfl rfl ?_
                  refine pq_ 13 103 (bL 50 16383) HT_.out rfl rfl ?_
                  refine pq_ 14 104 (bL 50 32767) HT_.out rfl rfl ?_
                  refine pq_ 16 106 (bL 50 98303) HT_.out rfl rfl ?_
                  refine pq_ 17 107 (bL 50 229375) HT_.out rfl rfl ?_
                  refine pq_ 18 108 (bL 50 491519) HT_.out rfl rfl ?_
                  refine take_ (i := 15) (N := some 105) (v := ?_) (a' := ?_) (bL 50 524287) rfl rfl (take_ofW HT_.out HW_.out (by kernel_rfl)) (fun _ _ _ h => h) (Or.inl ⟨by rfl, ?_⟩) hHeld ?_ ?_; rotate_left; (rintro w' ⟨s0, s1, s2, s3, s4, s5, s6, s7, s8, s9, s10, s11, s12, s13, s14, s15, s16, s17, s18, s19, s20, s21, s22, s23⟩; go_simp; with_reducible rfl); rotate_left; (exact put_q)
                  refine take_ (i := 19) (N := some 109) (v := ?_) (a' := ?_) (bL 50 1048575) rfl rfl (take_ofW HT_.out HW_.out (by kernel_rfl)) (fun _ _ _ h => h) (Or.inl ⟨by rfl, ?_⟩) hHeld ?_ ?_; rotate_left; (rintro w' ⟨s0, s1, s2, s3, s4, s5, s6, s7, s8, s9, s10, s11, s12, s13, s14, s15, s16, s17, s18, s19, s20, s21, s22, s23⟩; go_simp; with_reducible rfl); rotate_left; (exact put_q)
                  refine one_ (i := 20) (N := some 110) (bL 50 2097151) rfl rfl (one_of HT_.out (by kernel_rfl)) (by decide) (fun K hK => ?_)
                  refine goes_ Try.func52 (by kernel_rfl) rfl #[.agg #[.int .i64 ((rd_T61 x4_1 x9_3).f0), .int .i64 ((rd_T61 x4_1 x9_3).f1), .int .i64 ((rd_T61 x4_1 x9_3).f2), .int .i64 ((rd_T61 x4_1 x9_3).f3), .int .i64 ((rd_T61 x4_1 x9_3).f4), .slice A1374_5 ((rd_T61 x4_1 x9_3).f5).length c1374_5, .int .i64 ((rd_T61 x4_1 x9_3).f6), .bool ((rd_T61 x4_1 x9_3).f7)], .agg #[.int .i64 ((rd_T61 x5_1 x9_3).f0), .int .i64 ((rd_T61 x5_1 x9_3).f1), .int .i64 ((rd_T61 x5_1 x9_3).f2), .int .i64 ((rd_T61 x5_1 x9_3).f3), .int .i64 ((rd_T61 x5_1 x9_3).f4), .slice A1377_5 ((rd_T61 x5_1 x9_3).f5).length c1377_5, .int .i64 ((rd_T61 x5_1 x9_3).f6), .bool ((rd_T61 x5_1 x9_3).f7)]] (by rfl) rfl rfl mp_q ?_
                  with_reducible refine (spec_SameKey.calls ((rd_T61 x4_1 x9_3).f0) ((rd_T61 x4_1 x9_3).f1) ((rd_T61 x4_1 x9_3).f2) ((rd_T61 x4_1 x9_3).f3) ((rd_T61 x4_1 x9_3).f4) _ _ ((rd_T61 x4_1 x9_3).f5) ((rd_T61 x4_1 x9_3).f6) ((rd_T61 x4_1 x9_3).f7) ((rd_T61 x5_1 x9_3).f0) ((rd_T61 x5_1 x9_3).f1) ((rd_T61 x5_1 x9_3).f2) ((rd_T61 x5_1 x9_3).f3) ((rd_T61 x5_1 x9_3).f4) _ _ ((rd_T61 x5_1 x9_3).f5) ((rd_T61 x5_1 x9_3).f6) ((rd_T61 x5_1 x9_3).f7) true _ ?side1 ?side2 ?side3 ?side4 A72.out).mono ?_
                  (case side1 => repeat (first | exact (by repeat (first | (with_reducible exact HR1376_5.out) | (with_reducible refine Kd.C_alloc ?_ _) | (with_reducible refine Kd.C_drewN ?_ _) | (with_reducible refine Kd.C_drew ?_) | exact HR1376_5.out)) | (with_reducible refine Kd.C_alloc ?_ _) | (with_reducible refine Kd.C_drewN ?_ _) | (with_reducible refine Kd.C_drew ?_)))
                  (case side2 => exact HC1376_5.out)
                  (case side3 => repeat (first | exact (by repeat (first | (with_reducible exact HR1377_5.out) | (with_reducible refine Kd.C_alloc ?_ _) | (with_reducible refine Kd.C_drewN ?_ _) | (with_reducible refine Kd.C_drew ?_) | exact HR1377_5.out)) | (with_reducible refine Kd.C_alloc ?_ _) | (with_reducible refine Kd.C_drewN ?_ _) | (with_reducible refine Kd.C_drew ?_)))
                  (case side4 => exact HC1377_5.out)
                  rintro e w86 ⟨rfl, hb⟩
                  have HS8_ := (hb.cell (World.block_lt_of_cell? _ _ (hHeld.2.2.2.2.2.2.2.2.1))).trans (hHeld.2.2.2.2.2.2.2.2.1)
                  have HS9_ := (hb.cell (World.block_lt_of_cell? _ _ (hHeld.2.2.2.2.2.2.2.2.2.1))).trans (hHeld.2.2.2.2.2.2.2.2.2.1)
                  have HS10_ := (hb.cell (World.block_lt_of_cell? _ _ (hHeld.2.2.2.2.2.2.2.2.2.2.1))).trans (hHeld.2.2.2.2.2.2.2.2.2.2.1)
                  have HS11_ := (hb.cell (World.block_lt_of_cell? _ _ (hHeld.2.2.2.2.2.2.2.2.2.2.2.1))).trans (hHeld.2.2.2.2.2.2.2.2.2.2.2.1)
                  have HS12_ := (hb.cell (World.block_lt_of_cell? _ _ (hHeld.2.2.2.2.2.2.2.2.2.2.2.2.1))).trans (hHeld.2.2.2.2.2.2.2.2.2.2.2.2.1)
                  have HS13_ := (hb.cell (World.block_lt_of_cell? _ _ (hHeld.2.2.2.2.2.2.2.2.2.2.2.2.2.1))).trans (hHeld.2.2.2.2.2.2.2.2.2.2.2.2.2.1)
                  have HS14_ := (hb.cell (World.block_lt_of_cell? _ _ (hHeld.2.2.2.2.2.2.2.2.2.2.2.2.2.2.1))).trans (hHeld.2.2.2.2.2.2.2.2.2.2.2.2.2.2.1)
                  have HS15_ := (hb.cell (World.block_lt_of_cell? _ _ (hHeld.2.2.2.2.2.2.2.2.2.2.2.2.2.2.2.1))).trans (hHeld.2.2.2.2.2.2.2.2.2.2.2.2.2.2.2.1)
                  have HS24_ := (hb.cell (World.block_lt_of_cell? _ _ (hHeld.2.2.2.2.2.2.2.2.2.2.2.2.2.2.2.2.1))).trans (hHeld.2.2.2.2.2.2.2.2.2.2.2.2.2.2.2.2.1)
                  have HS25_ := (hb.cell (World.block_lt_of_cell? _ _ (hHeld.2.2.2.2.2.2.2.2.2.2.2.2.2.2.2.2.2.1))).trans (hHeld.2.2.2.2.2.2.2.2.2.2.2.2.2.2.2.2.2.1)
                  have HS26_ := (hb.cell (World.block_lt_of_cell? _ _ (hHeld.2.2.2.2.2.2.2.2.2.2.2.2.2.2.2.2.2.2.1))).trans (hHeld.2.2.2.2.2.2.2.2.2.2.2.2.2.2.2.2.2.2.1)
                  have HS27_ := (hb.cell (World.block_lt_of_cell? _ _ (hHeld.2.2.2.2.2.2.2.2.2.2.2.2.2.2.2.2.2.2.2.1))).trans (hHeld.2.2.2.2.2.2.2.2.2.2.2.2.2.2.2.2.2.2.2.1)
                  have HS28_ := (hb.cell (World.block_lt_of_cell? _ _ (hHeld.2.2.2.2.2.2.2.2.2.2.2.2.2.2.2.2.2.2.2.2.1))).trans (hHeld.2.2.2.2.2.2.2.2.2.2.2.2.2.2.2.2.2.2.2.2.1)
                  have HS29_ := (hb.cell (World.block_lt_of_cell? _ _ (hHeld.2.2.2.2.2.2.2.2.2.2.2.2.2.2.2.2.2.2.2.2.2.1))).trans (hHeld.2.2.2.2.2.2.2.2.2.2.2.2.2.2.2.2.2.2.2.2.2.1)
                  have HS30_ := (hb.cell (World.block_lt_of_cell? _ _ (hHeld.2.2.2.2.2.2.2.2.2.2.2.2.2.2.2.2.2.2.2.2.2.2.1))).trans (hHeld.2.2.2.2.2.2.2.2.2.2.2.2.2.2.2.2.2.2.2.2.2.2.1)
                  have HS31_ := (hb.cell (World.block_lt_of_cell? _ _ (hHeld.2.2.2.2.2.2.2.2.2.2.2.2.2.2.2.2.2.2.2.2.2.2.2))).trans (hHeld.2.2.2.2.2.2.2.2.2.2.2.2.2.2.2.2.2.2.2.2.2.2.2)
                  refine ⟨_, rfl, ?_⟩
                  replace HO_3 := Aside0.mk (Kd.S_below (kS_q HO_3) hb)
                  replace HO_4 := Aside0.mk (Kd.S_below (kS_q HO_4) hb)
                  replace HO_5 := Aside0.mk (Kd.S_below (kS_q HO_5) hb)
                  replace HL1361_5 := Aside0.mk (Kd.R_below (kR_q HL1361_5) hb)
                  replace HO1369 := Aside0.mk (Kd.R_below (kR_q HO1369) hb)
                  replace HL1374_5 := Aside0.mk (Kd.R_below (kR_q HL1374_5) hb)
                  replace HL1376_5 := Aside0.mk (Kd.R_below (kR_q HL1376_5) hb)
                  replace HL1377_5 := Aside0.mk (Kd.R_below (kR_q HL1377_5) hb)
                  replace BK1373 := Aside0.mk (blk_below (g := gb1373) (bk_q BK1373) hb)
                  replace HR1374_5 := Aside0.mk (Kd.C_below (by repeat (first | (with_reducible exact HR1374_5.out) | (with_reducible refine Kd.C_alloc ?_ _) | (with_reducible refine Kd.C_drewN ?_ _) | (with_reducible refine Kd.C_drew ?_) | exact HR1374_5.out)) hb)
                  replace HR1376_5 := Aside0.mk (Kd.C_below (by repeat (first | (with_reducible exact HR1376_5.out) | (with_reducible refine Kd.C_alloc ?_ _) | (with_reducible refine Kd.C_drewN ?_ _) | (with_reducible refine Kd.C_drew ?_) | exact HR1376_5.out)) hb)
                  replace HR1377_5 := Aside0.mk (Kd.C_below (by repeat (first | (with_reducible exact HR1377_5.out) | (with_reducible refine Kd.C_alloc ?_ _) | (with_reducible refine Kd.C_drewN ?_ _) | (with_reducible refine Kd.C_drew ?_) | exact HR1377_5.out)) hb)
                  replace HL1379_5 := Aside0.mk (Kd.R_below HL1379_5.out hb)
                  replace HL1380_5 := Aside0.mk (Kd.R_below HL1380_5.out hb)
                  replace HL1381_5 := Aside0.mk (Kd.R_below HL1381_5.out hb)
                  replace HL1382_5 := Aside0.mk (Kd.R_below HL1382_5.out hb)
                  replace HR1379_5 := Aside0.mk (Kd.C_below HR1379_5.out hb)
                  replace HR1380_5 := Aside0.mk (Kd.C_below HR1380_5.out hb)
                  replace HR1381_5 := Aside0.mk (Kd.C_below HR1381_5.out hb)
                  replace HR1382_5 := Aside0.mk (Kd.C_below HR1382_5.out hb)
                  replace HB := Aside0.mk (below_step (bw_q HB) hb)
                  (try clear hb)
                  (try clear hb2)
                  (try clear hk)
                  (try clear hi)
                  refine hK.out _ _ ⟨(blk_cell BK1373.out 0).trans rfl, (blk_cell BK1373.out 1).trans rfl, (blk_cell BK1373.out 2).trans rfl, (blk_cell BK1373.out 3).trans rfl, (blk_cell BK1373.out 4).trans rfl, (blk_cell BK1373.out 5).trans rfl, (blk_cell BK1373.out 6).trans rfl, (blk_cell BK1373.out 7).trans rfl, HS8_, HS9_, HS10_, HS11_, HS12_, HS13_, HS14_, HS15_, HS24_, HS25_, HS26_, HS27_, HS28_, HS29_, HS30_, HS31_⟩ (fun hHeld => ?_)
                  clear hK K
                  refine norm_ (a' := ?_) ?_ ?_; rotate_left; (show Act.put _ (some 110) _ = _; simp only [Act.put, List.setIfInBounds_toArray, List.set_cons_zero, List.set_cons_succ, i64_w, i32_w]; rfl)
                  refine pq_ 21 111 (bL 50 4194303) HT_.out rfl rfl ?_
                  refine pq_ 22 112 (bL 50 8388607) HT_.out rfl rfl ?_
                  refine pq_ 23 113 (bL 50 16777215) HT_.out rfl rfl ?_
                  refine pq_ 24 114 (bL 50 33554431) HT_.out rfl rfl ?_
                  refine pq_ 25 115 (bL 50 67108863) HT_.out rfl rfl ?_
                  refine pq_ 26 116 (bL 50 134217727) HT_.out rfl rfl ?_
                  refine pq_ 27 117 (bL 50 268435455) HT_.out rfl rfl ?_
                  refine pq_ 29 119 (bL 50 805306367) HT_.out rfl rfl ?_
                  refine pq_ 30 120 (bL 50 1879048191) HT_.out rfl rfl ?_
                  refine pq_ 31 121 (bL 50 4026531839) HT_.out rfl rfl ?_
                  refine pq_ 32 122 (bL 50 8321499135) HT_.out rfl rfl ?_
                  refine take_ (i := 28) (N := some 118) (v := ?_) (a' := ?_) (bL 50 8589934591) rfl rfl (take_ofW HT_.out HW_.out (by kernel_rfl)) (fun _ _ _ h => h) (Or.inl ⟨by rfl, ?_⟩) hHeld ?_ ?_; rotate_left; (rintro w' ⟨s0, s1, s2, s3, s4, s5, s6, s7, s8, s9, s10, s11, s12, s13, s14, s15, s16, s17, s18, s19, s20, s21, s22, s23⟩; go_simp; with_reducible rfl); rotate_left; (exact put_q)
                  refine take_ (i := 33) (N := some 123) (v := ?_) (a' := ?_) (bL 50 17179869183) rfl rfl (take_ofW HT_.out HW_.out (by kernel_rfl)) (fun _ _ _ h => h) (Or.inl ⟨by rfl, ?_⟩) hHeld ?_ ?_; rotate_left; (rintro w' ⟨s0, s1, s2, s3, s4, s5, s6, s7, s8, s9, s10, s11, s12, s13, s14, s15, s16, s17, s18, s19, s20, s21, s22, s23⟩; go_simp; with_reducible rfl); rotate_left; (exact put_q)
                  refine pq_ 34 124 (bL 50 34359738367) HT_.out rfl rfl ?_
                  refine pq_ 35 125 (bL 50 68719476735) HT_.out rfl rfl ?_
                  refine pq_ 36 126 (bL 50 137438953471) HT_.out rfl rfl ?_
                  refine pq_ 37 127 (bL 50 274877906943) HT_.out rfl rfl ?_
                  refine pq_ 38 128 (bL 50 549755813887) HT_.out rfl rfl ?_
                  refine pq_ 39 129 (bL 50 1099511627775) HT_.out rfl rfl ?_
                  refine pq_ 40 130 (bL 50 2199023255551) HT_.out rfl rfl ?_
                  refine pq_ 42 132 (bL 50 6597069766655) HT_.out rfl rfl ?_
                  refine pq_ 43 133 (bL 50 15393162788863) HT_.out rfl rfl ?_
                  refine pq_ 44 134 (bL 50 32985348833279) HT_.out rfl rfl ?_
                  refine pq_ 45 135 (bL 50 68169720922111) HT_.out rfl rfl ?_
                  refine take_ (i := 41) (N := some 131) (v := ?_) (a' := ?_) (bL 50 70368744177663) rfl rfl (take_ofW HT_.out HW_.out (by kernel_rfl)) (fun _ _ _ h => h) (Or.inl ⟨by rfl, ?_⟩) hHeld ?_ ?_; rotate_left; (rintro w' ⟨s0, s1, s2, s3, s4, s5, s6, s7, s8, s9, s10, s11, s12, s13, s14, s15, s16, s17, s18, s19, s20, s21, s22, s23⟩; go_simp; with_reducible rfl); rotate_left; (exact put_q)
                  refine take_ (i := 46) (N := some 136) (v := ?_) (a' := ?_) (bL 50 140737488355327) rfl rfl (take_ofW HT_.out HW_.out (by kernel_rfl)) (fun _ _ _ h => h) (Or.inl ⟨by rfl, ?_⟩) hHeld ?_ ?_; rotate_left; (rintro w' ⟨s0, s1, s2, s3, s4, s5, s6, s7, s8, s9, s10, s11, s12, s13, s14, s15, s16, s17, s18, s19, s20, s21, s22, s23⟩; go_simp; with_reducible rfl); rotate_left; (exact put_q)
                  refine one_ (i := 47) (N := some 137) (bL 50 281474976710655) rfl rfl (one_of HT_.out (by kernel_rfl)) (by decide) (fun K hK => ?_)
                  refine goes_ Try.func49 (by kernel_rfl) rfl #[.slice Ao56 t1326.length co56, .agg #[.int .i64 ((rd_T61 x4_1 x9_3).f0), .int .i64 ((rd_T61 x4_1 x9_3).f1), .int .i64 ((rd_T61 x4_1 x9_3).f2), .int .i64 ((rd_T61 x4_1 x9_3).f3), .int .i64 ((rd_T61 x4_1 x9_3).f4), .slice A1374_5 ((rd_T61 x4_1 x9_3).f5).length c1374_5, .int .i64 ((rd_T61 x4_1 x9_3).f6), .bool ((rd_T61 x4_1 x9_3).f7)]] (by rfl) rfl rfl mp_q ?_
                  with_reducible refine (laws_newest.calls k3 _ _ t1326 ((rd_T61 x4_1 x9_3).f0) ((rd_T61 x4_1 x9_3).f1) ((rd_T61 x4_1 x9_3).f2) ((rd_T61 x4_1 x9_3).f3) ((rd_T61 x4_1 x9_3).f4) _ _ ((rd_T61 x4_1 x9_3).f5) ((rd_T61 x4_1 x9_3).f6) ((rd_T61 x4_1 x9_3).f7) t1383 _ ?side1 ?side2 ?side3 ?side4 A75.out).mono ?_
                  (case side1 => repeat (first | exact (Kd.S_reads' HO_3.out).2.2 | (with_reducible refine Kd.C_alloc ?_ _) | (with_reducible refine Kd.C_drewN ?_ _) | (with_reducible refine Kd.C_drew ?_)))
                  (case side2 => exact (Kd.S_reads' HO_3.out).2.1)
                  (case side3 => repeat (first | exact (by repeat (first | (with_reducible exact HR1382_5.out) | (with_reducible refine Kd.C_alloc ?_ _) | (with_reducible refine Kd.C_drewN ?_ _) | (with_reducible refine Kd.C_drew ?_) | exact HR1382_5.out)) | (with_reducible refine Kd.C_alloc ?_ _) | (with_reducible refine Kd.C_drewN ?_ _) | (with_reducible refine Kd.C_drew ?_)))
                  (case side4 => exact HC1382_5.out)
                  rintro e w87 ⟨rfl, hb⟩
                  have HS8_ := (hb.cell (World.block_lt_of_cell? _ _ (hHeld.2.2.2.2.2.2.2.2.1))).trans (hHeld.2.2.2.2.2.2.2.2.1)
                  have HS9_ := (hb.cell (World.block_lt_of_cell? _ _ (hHeld.2.2.2.2.2.2.2.2.2.1))).trans (hHeld.2.2.2.2.2.2.2.2.2.1)
                  have HS10_ := (hb.cell (World.block_lt_of_cell? _ _ (hHeld.2.2.2.2.2.2.2.2.2.2.1))).trans (hHeld.2.2.2.2.2.2.2.2.2.2.1)
                  have HS11_ := (hb.cell (World.block_lt_of_cell? _ _ (hHeld.2.2.2.2.2.2.2.2.2.2.2.1))).trans (hHeld.2.2.2.2.2.2.2.2.2.2.2.1)
                  have HS12_ := (hb.cell (World.block_lt_of_cell? _ _ (hHeld.2.2.2.2.2.2.2.2.2.2.2.2.1))).trans (hHeld.2.2.2.2.2.2.2.2.2.2.2.2.1)
                  have HS13_ := (hb.cell (World.block_lt_of_cell? _ _ (hHeld.2.2.2.2.2.2.2.2.2.2.2.2.2.1))).trans (hHeld.2.2.2.2.2.2.2.2.2.2.2.2.2.1)
                  have HS14_ := (hb.cell (World.block_lt_of_cell? _ _ (hHeld.2.2.2.2.2.2.2.2.2.2.2.2.2.2.1))).trans (hHeld.2.2.2.2.2.2.2.2.2.2.2.2.2.2.1)
                  have HS15_ := (hb.cell (World.block_lt_of_cell? _ _ (hHeld.2.2.2.2.2.2.2.2.2.2.2.2.2.2.2.1))).trans (hHeld.2.2.2.2.2.2.2.2.2.2.2.2.2.2.2.1)
                  have HS24_ := (hb.cell (World.block_lt_of_cell? _ _ (hHeld.2.2.2.2.2.2.2.2.2.2.2.2.2.2.2.2.1))).trans (hHeld.2.2.2.2.2.2.2.2.2.2.2.2.2.2.2.2.1)
                  have HS25_ := (hb.cell (World.block_lt_of_cell? _ _ (hHeld.2.2.2.2.2.2.2.2.2.2.2.2.2.2.2.2.2.1))).trans (hHeld.2.2.2.2.2.2.2.2.2.2.2.2.2.2.2.2.2.1)
                  have HS26_ := (hb.cell (World.block_lt_of_cell? _ _ (hHeld.2.2.2.2.2.2.2.2.2.2.2.2.2.2.2.2.2.2.1))).trans (hHeld.2.2.2.2.2.2.2.2.2.2.2.2.2.2.2.2.2.2.1)
                  have HS27_ := (hb.cell (World.block_lt_of_cell? _ _ (hHeld.2.2.2.2.2.2.2.2.2.2.2.2.2.2.2.2.2.2.2.1))).trans (hHeld.2.2.2.2.2.2.2.2.2.2.2.2.2.2.2.2.2.2.2.1)
                  have HS28_ := (hb.cell (World.block_lt_of_cell? _ _ (hHeld.2.2.2.2.2.2.2.2.2.2.2.2.2.2.2.2.2.2.2.2.1))).trans (hHeld.2.2.2.2.2.2.2.2.2.2.2.2.2.2.2.2.2.2.2.2.1)
                  have HS29_ := (hb.cell (World.block_lt_of_cell? _ _ (hHeld.2.2.2.2.2.2.2.2.2.2.2.2.2.2.2.2.2.2.2.2.2.1))).trans (hHeld.2.2.2.2.2.2.2.2.2.2.2.2.2.2.2.2.2.2.2.2.2.1)
                  have HS30_ := (hb.cell (World.block_lt_of_cell? _ _ (hHeld.2.2.2.2.2.2.2.2.2.2.2.2.2.2.2.2.2.2.2.2.2.2.1))).trans (hHeld.2.2.2.2.2.2.2.2.2.2.2.2.2.2.2.2.2.2.2.2.2.2.1)
                  have HS31_ := (hb.cell (World.block_lt_of_cell? _ _ (hHeld.2.2.2.2.2.2.2.2.2.2.2.2.2.2.2.2.2.2.2.2.2.2.2))).trans (hHeld.2.2.2.2.2.2.2.2.2.2.2.2.2.2.2.2.2.2.2.2.2.2.2)
                  refine ⟨_, rfl, ?_⟩
                  replace HO_3 := Aside0.mk (Kd.S_below (kS_q HO_3) hb)
                  replace HO_4 := Aside0.mk (Kd.S_below (kS_q HO_4) hb)
                  replace HO_5 := Aside0.mk (Kd.S_below (kS_q HO_5) hb)
                  replace HL1361_5 := Aside0.mk (Kd.R_below (kR_q HL1361_5) hb)
                  replace HO1369 := Aside0.mk (Kd.R_below (kR_q HO1369) hb)
                  replace HL1374_5 := Aside0.mk (Kd.R_below (kR_q HL1374_5) hb)
                  replace HL1376_5 := Aside0.mk (Kd.R_below (kR_q HL1376_5) hb)
                  replace HL1377_5 := Aside0.mk (Kd.R_below (kR_q HL1377_5) hb)
                  replace HL1379_5 := Aside0.mk (Kd.R_below (kR_q HL1379_5) hb)
                  replace HL1380_5 := Aside0.mk (Kd.R_below (kR_q HL1380_5) hb)
                  replace HL1381_5 := Aside0.mk (Kd.R_below (kR_q HL1381_5) hb)
                  replace HL1382_5 := Aside0.mk (Kd.R_below (kR_q HL1382_5) hb)
                  replace BK1373 := Aside0.mk (blk_below (g := gb1373) (bk_q BK1373) hb)
                  replace HR1374_5 := Aside0.mk (Kd.C_below (by repeat (first | (with_reducible exact HR1374_5.out) | (with_reducible refine Kd.C_alloc ?_ _) | (with_reducible refine Kd.C_drewN ?_ _) | (with_reducible refine Kd.C_drew ?_) | exact HR1374_5.out)) hb)
                  replace HR1376_5 := Aside0.mk (Kd.C_below (by repeat (first | (with_reducible exact HR1376_5.out) | (with_reducible refine Kd.C_alloc ?_ _) | (with_reducible refine Kd.C_drewN ?_ _) | (with_reducible refine Kd.C_drew ?_) | exact HR1376_5.out)) hb)
                  replace HR1377_5 := Aside0.mk (Kd.C_below (by repeat (first | (with_reducible exact HR1377_5.out) | (with_reducible refine Kd.C_alloc ?_ _) | (with_reducible refine Kd.C_drewN ?_ _) | (with_reducible refine Kd.C_drew ?_) | exact HR1377_5.out)) hb)
                  replace HR1379_5 := Aside0.mk (Kd.C_below (by repeat (first | (with_reducible exact HR1379_5.out) | (with_reducible refine Kd.C_alloc ?_ _) | (with_reducible refine Kd.C_drewN ?_ _) | (with_reducible refine Kd.C_drew ?_) | exact HR1379_5.out)) hb)
                  replace HR1380_5 := Aside0.mk (Kd.C_below (by repeat (first | (with_reducible exact HR1380_5.out) | (with_reducible refine Kd.C_alloc ?_ _) | (with_reducible refine Kd.C_drewN ?_ _) | (with_reducible refine Kd.C_drew ?_) | exact HR1380_5.out)) hb)
                  replace HR1381_5 := Aside0.mk (Kd.C_below (by repeat (first | (with_reducible exact HR1381_5.out) | (with_reducible refine Kd.C_alloc ?_ _) | (with_reducible refine Kd.C_drewN ?_ _) | (with_reducible refine Kd.C_drew ?_) | exact HR1381_5.out)) hb)
                  replace HR1382_5 := Aside0.mk (Kd.C_below (by repeat (first | (with_reducible exact HR1382_5.out) | (with_reducible refine Kd.C_alloc ?_ _) | (with_reducible refine Kd.C_drewN ?_ _) | (with_reducible refine Kd.C_drew ?_) | exact HR1382_5.out)) hb)
                  replace HB := Aside0.mk (below_step (bw_q HB) hb)
                  (try clear hb)
                  (try clear hb2)
                  (try clear hk)
                  (try clear hi)
                  refine hK.out _ _ ⟨(blk_cell BK1373.out 0).trans rfl, (blk_cell BK1373.out 1).trans rfl, (blk_cell BK1373.out 2).trans rfl, (blk_cell BK1373.out 3).trans rfl, (blk_cell BK1373.out 4).trans rfl, (blk_cell BK1373.out 5).trans rfl, (blk_cell BK1373.out 6).trans rfl, (blk_cell BK1373.out 7).trans rfl, HS8_, HS9_, HS10_, HS11_, HS12_, HS13_, HS14_, HS15_, HS24_, HS25_, HS26_, HS27_, HS28_, HS29_, HS30_, HS31_⟩ (fun hHeld => ?_)
                  clear hK K
                  refine norm_ (a' := ?_) ?_ ?_; rotate_left; (show Act.put _ (some 137) _ = _; simp only [Act.put, List.setIfInBounds_toArray, List.set_cons_zero, List.set_cons_succ, i64_w, i32_w]; rfl)
                  refine pq_ 48 138 (bL 50 562949953421311) HT_.out rfl rfl ?_
                  refine pq_ 49 139 (bL 50 1125899906842623) HT_.out rfl rfl ?_
                  refine done_ (done_of HT_.out (by kernel_rfl)) ?_
                  try go_wp2
                  go_roundg k3
                  case measure => have := HK1.out; have := HJ54.out; have := HK3.out; omega
                  case rel => exact ⟨(wrap64 (x9_3 + 1)), (by first | rfl | (simp; done) | (simp [*]; done)), H', ⟨by have := HK1.out; have := HJ54.out; have := HK3.out; omega⟩, ⟨by (with_reducible repeat (first | apply Kd.S_alloc | apply Kd.S_drewN | apply Kd.S_drew)); exact Kd.S_mono HO_3.out (fun _ hk => ⟨hk.1, hk.2.1⟩)⟩, ⟨by (with_reducible repeat (first | apply Kd.S_alloc | apply Kd.S_drewN | apply Kd.S_drew)); exact Kd.S_mono HO_4.out (fun _ hk => ⟨hk.1, hk.2.1⟩)⟩, ⟨by (with_reducible repeat (first | apply Kd.S_alloc | apply Kd.S_drewN | apply Kd.S_drew)); exact Kd.S_mono HO_5.out (fun _ hk => ⟨hk.1, hk.2.1⟩)⟩, ⟨bw_q HB⟩⟩
                 ·rw [if_neg c76] at H
                  have c76b0 : (((rd_T61 x4_1 x9_3).f4) == t1383) = false := beq_eq_false_iff_ne.mpr c76
                  have c76b1 : (((rd_T61 x4_1 x9_3).f4) != t1383) = true := bne_iff_ne.mpr c76
                  exact absurd (Option.some.inj H) (by rw [hr_]; decide)
                ·rw [if_neg c74] at H
                 have c74b0 : (((rd_T61 x4_1 x9_3).f4) == ((rd_T61 x5_1 x9_3).f4)) = false := beq_eq_false_iff_ne.mpr c74
                 have c74b1 : (((rd_T61 x4_1 x9_3).f4) != ((rd_T61 x5_1 x9_3).f4)) = true := bne_iff_ne.mpr c74
                 exact absurd (Option.some.inj H) (by rw [hr_]; decide)
               ·replace c73 := Bool.eq_false_iff.mpr c73
                subst c73
                have H1 : (some false) = some r := by rw [if_neg (show ¬ (false = true) by decide)] at H; exact H
                clear H
                have H := H1
                clear H1
                exact absurd (Option.some.inj H) (by rw [hr_]; decide)
              ·rw [if_neg c71] at H
               exact absurd H (by simp)
             ·replace c70 := Bool.eq_false_iff.mpr c70
              subst c70
              have H1 : (some false) = some r := by rw [if_neg (show ¬ (false = true) by decide)] at H; exact H
              clear H
              have H := H1
              clear H1
              exact absurd (Option.some.inj H) (by rw [hr_]; decide)
            ·replace c68 := Bool.eq_false_iff.mpr c68
             subst c68
             have H1 : (some false) = some r := by rw [if_neg (show ¬ (false = true) by decide)] at H; exact H
             clear H
             have H := H1
             clear H1
             exact absurd (Option.some.inj H) (by rw [hr_]; decide)
           ·rw [if_neg c66] at H
            exact absurd H (by simp)
          ·rw [if_neg c65] at H
           have c65b0 : decide (x9_3 < (x4_1.length : Int)) = false := decide_eq_false c65
           clear c65
           obtain ⟨y1354, hy1354⟩ : ∃ y_ : List (S61), y_ = (([] : List (S61))) := ⟨_, rfl⟩
           replace H : ((impl_Merge.f k3 y1354 t1326).bind fun t1357 => ((laws_sameStore.f k3 t1357 x4_1).bind fun t1360 => (some t1360))) = some r := by first | (rw [hy1354]; with_reducible exact H) | (have H2_ := (Option.bind_some _ _).symm.trans H; rw [hy1354]; with_reducible exact H2_) | (have H2_ := (Option.bind_some _ _).symm.trans H; with_reducible exact H2_) | with_reducible exact H | (rw [hy1354]; exact H) | exact H
           have Ny1354 := Aside0.mk hy1354
           clear hy1354
           replace H := Option.bind_eq_some_iff.mp H
           obtain ⟨t1357, A880, H⟩ := H
           replace H : ((laws_sameStore.f k3 t1357 x4_1).bind fun t1360 => (some t1360)) = some r := H
           have A88 := Aside0.mk A880
           clear A880
           replace H := Option.bind_eq_some_iff.mp H
           obtain ⟨t1360, A890, H⟩ := H
           replace H : (some t1360) = some r := H
           have A89 := Aside0.mk A890
           clear A890
           obtain rfl := Option.some.inj H
           obtain ⟨Ao90, co90, eo90⟩ := Kd.S_slice HO_4.out
           subst eo90
           go_wp2_with (first | ((with_reducible refine gate_dst (N := 140) rfl ?_); (try (refine gate_guard (by rfl) ?_; dsimp only)); refine Kd.S_lit k61 _ 61 ?hg (N := 140) ?hd (xs := ([] : List (S61))) (inner := []) (ok := fun _ => True) (okp := fun _ => True) ?hr ?hp (fun _ hk => hk) trivial (Below.refl _ _) (Nat.le_refl _) (by simp) ?_; (case hd => rfl); (case hg => rfl); (case hr => first | (go_simp; done) | (go_simp; rfl)); (case hp => exact (Reps.none _ _)); intro v1355 w91 ho92 hb hg_ hnew_; clear hg_ hnew_; (first | rw [← Ny1354.out] at ho92 | (simp only [Int.reduceToNat] at ho92; rw [← Ny1354.out] at ho92)); have HO1356 := Aside0.mk (Kd.S_lower (Kd.S_new' (Kd.S_new' (Kd.S_new' ho92 (Kd.S_lt (kS_q HO_3))) (Kd.S_lt (kS_q HO_4))) (Kd.S_lt (kS_q HO_5))) (below_size (bw_q HB))); replace HO_3 := Aside0.mk (Kd.S_elder' (kS_q HO_3) (Kd.S_base ho92) hb); replace HO_4 := Aside0.mk (Kd.S_elder' (kS_q HO_4) (Kd.S_base ho92) hb); replace HO_5 := Aside0.mk (Kd.S_elder' (kS_q HO_5) (Kd.S_base ho92) hb); replace HB := Aside0.mk (below_step (bw_q HB) hb); clear hb ho92; obtain ⟨Ao93, co93, eo93⟩ := Kd.S_slice HO1356.out; subst eo93) | ((with_reducible refine gate_callee (f := 44) rfl ?_); refine goesL_ (some 142) rfl rfl Try.func44 (by kernel_rfl) rfl #[.slice Ao93 y1354.length co93, .slice Ao56 t1326.length co56] rfl mp_q ?_; (with_reducible refine (impl_Merge.calls k3 _ _ y1354 _ _ t1326 t1357 _ ?side1 ?side2 ?side3 ?side4 A88.out).mono ?_); (case side1 => repeat (first | exact (Kd.S_reads' HO1356.out).2.2 | (with_reducible refine Kd.C_alloc ?_ _) | (with_reducible refine Kd.C_drewN ?_ _) | (with_reducible refine Kd.C_drew ?_))); (case side2 => exact (Kd.S_reads' HO1356.out).2.1); (case side3 => repeat (first | exact (Kd.S_reads' HO_3.out).2.2 | (with_reducible refine Kd.C_alloc ?_ _) | (with_reducible refine Kd.C_drewN ?_ _) | (with_reducible refine Kd.C_drew ?_))); (case side4 => exact (Kd.S_reads' HO_3.out).2.1); rintro e w94 ⟨v1358, rfl, ho0, hb⟩; refine ⟨_, rfl, ?_⟩; have HO1359 := Aside0.mk (Kd.S_lower (Kd.S_new' (Kd.S_new' (Kd.S_new' (Kd.S_new' ho0 (Kd.S_lt (kS_q HO_3))) (Kd.S_lt (kS_q HO_4))) (Kd.S_lt (kS_q HO_5))) (Kd.S_lt (kS_q HO1356))) (below_size (bw_q HB))); replace HO_3 := Aside0.mk (Kd.S_elder' (kS_q HO_3) (Kd.S_base ho0) hb); replace HO_4 := Aside0.mk (Kd.S_elder' (kS_q HO_4) (Kd.S_base ho0) hb); replace HO_5 := Aside0.mk (Kd.S_elder' (kS_q HO_5) (Kd.S_base ho0) hb); replace HO1356 := Aside0.mk (Kd.S_elder' (kS_q HO1356) (Kd.S_base ho0) hb); replace HB := Aside0.mk (below_step (bw_q HB) hb); (try clear hb); (try clear hb2); (try clear hk); (try clear hi); (try clear ho0); obtain ⟨Ao95, co95, eo95⟩ := Kd.S_slice HO1359.out; subst eo95) | ((with_reducible refine gate_callee (f := 53) rfl ?_); refine goesL_ (some 145) rfl rfl Try.func53 (by kernel_rfl) rfl #[.slice Ao95 t1357.length co95, .slice Ao90 x4_1.length co90] rfl mp_q ?_; (with_reducible refine (laws_sameStore.calls k3 _ _ t1357 _ _ x4_1 t1360 _ ?side1 ?side2 ?side3 ?side4 A89.out).mono ?_); (case side1 => repeat (first | exact (Kd.S_reads' HO1359.out).2.2 | (with_reducible refine Kd.C_alloc ?_ _) | (with_reducible refine Kd.C_drewN ?_ _) | (with_reducible refine Kd.C_drew ?_))); (case side2 => exact (Kd.S_reads' HO1359.out).2.1); (case side3 => repeat (first | exact (Kd.S_reads' HO_4.out).2.2 | (with_reducible refine Kd.C_alloc ?_ _) | (with_reducible refine Kd.C_drewN ?_ _) | (with_reducible refine Kd.C_drew ?_))); (case side4 => exact (Kd.S_reads' HO_4.out).2.1); rintro e w96 ⟨rfl, hb⟩; refine ⟨_, rfl, ?_⟩; replace HO_3 := Aside0.mk (Kd.S_below (kS_q HO_3) hb); replace HO_4 := Aside0.mk (Kd.S_below (kS_q HO_4) hb); replace HO_5 := Aside0.mk (Kd.S_below (kS_q HO_5) hb); replace HO1356 := Aside0.mk (Kd.S_below (kS_q HO1356) hb); replace HO1359 := Aside0.mk (Kd.S_below (kS_q HO1359) hb); replace HB := Aside0.mk (below_step (bw_q HB) hb); (try clear hb); (try clear hb2); (try clear hk); (try clear hi)))
           go_ret
           exact ⟨er_q, bw_q HB⟩

/-- THE ONE PURE STATEMENT of laws_FnStores: yours. -/
def laws_FnStores.Pure : Prop := ∀ (l0 : List Int), l0.length ≤ maxLen → l0.length * 1 ≤ 140737488351232 → (∀ x ∈ l0, (Lit.int .u8 x).wf = true) → ∃ k, laws_FnStores.f k l0 = some true
theorem laws_FnStores.walk (P : laws_FnStores.Pure) (a0 : Option Addr) (len0 cap0 : Nat) (z0 : List Int) (w : World) (w0 : (a0 = none ∧ len0 = 0 ∧ cap0 = 0 ∧ z0 = []) ∨ ∃ x, a0 = some x ∧ len0 ≤ cap0 ∧ cap0 ≤ maxLen ∧ z0.length = cap0 ∧ (∀ i, i < z0.length → w.cell? (x.add i) = some (.int .u8 (z0.getD i 0))) ∧ ∀ n ∈ z0, (Lit.int .u8 n).wf = true) (y0 : len0 * 1 ≤ 140737488351232) :
  Calls Try.prog 10 #[.slice a0 len0 cap0] w fun e w' => e = .returned (.bool true) ∧ Below w.heap.size w w' := by
 obtain ⟨l0, rfl, hr0, hm0, hw0, hc0⟩ := ReadsInt.ofRowC w0
 obtain ⟨k, h⟩ := P l0 hm0 y0 hw0
 refine (laws_FnStores.calls k _ _ l0 true w (Kd.C_of_reads (d := (0 : Int)) (h1 := fun _ => rfl) hr0) hc0 rfl h).mono ?_
 rintro e w' ⟨rfl, hd⟩
 exact ⟨rfl, hd⟩

end Go.Proofs.Ythjmdiggglkeaaa.Q
