import Derived.Test.YtnecbkognpponaaXPacketTextQlawstoNearS
import Derived.Test.YtnecbkognpponaaXPacketTextQspecl04Near
import Derived.Test.YtnecbkognpponaaXPacketTextQspecSameKey
import Derived.Test.YtnecbkognpponaaXPacketTextQspecSameBody
import Derived.Test.YtnecbkognpponaaXPacketTextQspecl04Copy
/- A Go function as a Lean function, and its contract: for every input the Go code comes to what the Lean function tells. -/






namespace Go.Proofs.Ytnecbkognpponaa.Q
open Go.RowKit Go.Proofs.YtnecbkognpponaaW.PrintWords Go.Proofs.YtnecbkognpponaaW.PrintLast Go.Proofs.YtnecbkognpponaaW.PrintMore
attribute [local go_sem] max2_int min2_int max_two min_two max_three min_three max_four min_four   -- for this text's walks alone
set_option linter.unusedVariables false
set_option linter.unusedSimpArgs false

/-! ### spec_PacketOk: function 30 -/
mutual
def spec_PacketOk.j0 : Nat → Bool → Int → Int → Int → Int → List Int → List (S24) → Option (Bool)
 | 0, _, _, _, _, _, _, _ => none
 | k + 1, x34, x213000, x213001, x213002, x213003, x213004, x213005 => if x34 = true then (some false) else (spec_PacketOk.l0 k 0 x213000 x213001 x213002 x213003 x213004 x213005)
def spec_PacketOk.l0 : Nat → Int → Int → Int → Int → Int → List Int → List (S24) → Option (Bool)
 | 0, _, _, _, _, _, _, _ => none
 | k + 1, x3, x213000, x213001, x213002, x213003, x213004, x213005 => if x3 < (x213004.length : Int) then (if 0 ≤ x3 then ((spec_l01In.f (rd x213004 x3) 1 6).bind fun t218 => (if t218 = true then (if x3 > 0 then (if 0 ≤ (wrap64 (x3 - 1)) then (if (wrap64 (x3 - 1)) < (x213004.length : Int) then (if (rd x213004 (wrap64 (x3 - 1))) ≥ (rd x213004 x3) then (some false) else (spec_PacketOk.l0 k (wrap64 (x3 + 1)) x213000 x213001 x213002 x213003 x213004 x213005)) else (none)) else (none)) else (spec_PacketOk.l0 k (wrap64 (x3 + 1)) x213000 x213001 x213002 x213003 x213004 x213005)) else (some false))) else (none)) else (if x213000 = 1 then (if (x213005.length : Int) > 0 then (spec_PacketOk.j2 k true x213000 x213001 x213002 x213003 x213004 x213005) else ((spec_StoreOk.f k x213005).bind fun t220 => (spec_PacketOk.j2 k (!t220) x213000 x213001 x213002 x213003 x213004 x213005))) else (if (x213004.length : Int) > 0 then (spec_PacketOk.j2 k true x213000 x213001 x213002 x213003 x213004 x213005) else ((spec_StoreOk.f k x213005).bind fun t221 => (spec_PacketOk.j2 k (!t221) x213000 x213001 x213002 x213003 x213004 x213005))))
def spec_PacketOk.j2 : Nat → Bool → Int → Int → Int → Int → List Int → List (S24) → Option (Bool)
 | 0, _, _, _, _, _, _, _ => none
 | k + 1, x92, x213000, x213001, x213002, x213003, x213004, x213005 => if x92 = true then (some false) else (spec_PacketOk.l1 k 0 x213000 x213001 x213002 x213003 x213004 x213005)
def spec_PacketOk.l1 : Nat → Int → Int → Int → Int → Int → List Int → List (S24) → Option (Bool)
 | 0, _, _, _, _, _, _, _ => none
 | k + 1, x4, x213000, x213001, x213002, x213003, x213004, x213005 => if x4 < (x213005.length : Int) then (if 0 ≤ x4 then (if ((rd_T24 x213005 x4).f0) = x213003 then (if x213000 = 2 then ((spec_l04Copy.f ((rd_T24 x213005 x4).f0) ((rd_T24 x213005 x4).f1) ((rd_T24 x213005 x4).f2) ((rd_T24 x213005 x4).f3) ((rd_T24 x213005 x4).f4) ((rd_T24 x213005 x4).f5) ((rd_T24 x213005 x4).f6) ((rd_T24 x213005 x4).f7)).bind fun bt224 => ((spec_l09Head.f bt224.1 bt224.2.1 bt224.2.2.1 bt224.2.2.2.1 bt224.2.2.2.2.1 bt224.2.2.2.2.2.1 bt224.2.2.2.2.2.2.1 bt224.2.2.2.2.2.2.2).bind fun bt234 => ((spec_SameBody.f k bt234.1 bt234.2.1 bt234.2.2.1 bt234.2.2.2.1 bt234.2.2.2.2.1 bt234.2.2.2.2.2.1 bt234.2.2.2.2.2.2.1 bt234.2.2.2.2.2.2.2 ((rd_T24 x213005 x4).f0) ((rd_T24 x213005 x4).f1) ((rd_T24 x213005 x4).f2) ((rd_T24 x213005 x4).f3) ((rd_T24 x213005 x4).f4) ((rd_T24 x213005 x4).f5) ((rd_T24 x213005 x4).f6) ((rd_T24 x213005 x4).f7)).bind fun t244 => (if t244 = true then (spec_PacketOk.l1 k (wrap64 (x4 + 1)) x213000 x213001 x213002 x213003 x213004 x213005) else (some false))))) else (spec_PacketOk.l1 k (wrap64 (x4 + 1)) x213000 x213001 x213002 x213003 x213004 x213005)) else (if ((rd_T24 x213005 x4).f0) = 9 then (if x213000 = 2 then ((spec_l04Copy.f ((rd_T24 x213005 x4).f0) ((rd_T24 x213005 x4).f1) ((rd_T24 x213005 x4).f2) ((rd_T24 x213005 x4).f3) ((rd_T24 x213005 x4).f4) ((rd_T24 x213005 x4).f5) ((rd_T24 x213005 x4).f6) ((rd_T24 x213005 x4).f7)).bind fun bt245 => ((spec_l09Head.f bt245.1 bt245.2.1 bt245.2.2.1 bt245.2.2.2.1 bt245.2.2.2.2.1 bt245.2.2.2.2.2.1 bt245.2.2.2.2.2.2.1 bt245.2.2.2.2.2.2.2).bind fun bt255 => ((spec_SameBody.f k bt255.1 bt255.2.1 bt255.2.2.1 bt255.2.2.2.1 bt255.2.2.2.2.1 bt255.2.2.2.2.2.1 bt255.2.2.2.2.2.2.1 bt255.2.2.2.2.2.2.2 ((rd_T24 x213005 x4).f0) ((rd_T24 x213005 x4).f1) ((rd_T24 x213005 x4).f2) ((rd_T24 x213005 x4).f3) ((rd_T24 x213005 x4).f4) ((rd_T24 x213005 x4).f5) ((rd_T24 x213005 x4).f6) ((rd_T24 x213005 x4).f7)).bind fun t265 => (if t265 = true then (spec_PacketOk.l1 k (wrap64 (x4 + 1)) x213000 x213001 x213002 x213003 x213004 x213005) else (some false))))) else (spec_PacketOk.l1 k (wrap64 (x4 + 1)) x213000 x213001 x213002 x213003 x213004 x213005)) else (some false))) else (none)) else (some true)
end
def spec_PacketOk.f (k : Nat) (a0_0 : Int) (a0_1 : Int) (a0_2 : Int) (a0_3 : Int) (l0_4 : List Int) (l0_5 : List (S24)) : Option (Bool) := (spec_l01In.f a0_0 1 3).bind fun t213 => (if t213 = true then ((spec_l01In.f a0_1 1 6).bind fun t214 => (if t214 = true then ((spec_l01In.f a0_2 1 6).bind fun t215 => (if t215 = true then (if a0_1 = a0_2 then (spec_PacketOk.j0 k true a0_0 a0_1 a0_2 a0_3 l0_4 l0_5) else ((spec_l01In.f a0_3 0 2).bind fun t216 => (spec_PacketOk.j0 k (!t216) a0_0 a0_1 a0_2 a0_3 l0_4 l0_5))) else (spec_PacketOk.j0 k true a0_0 a0_1 a0_2 a0_3 l0_4 l0_5))) else (spec_PacketOk.j0 k true a0_0 a0_1 a0_2 a0_3 l0_4 l0_5))) else (spec_PacketOk.j0 k true a0_0 a0_1 a0_2 a0_3 l0_4 l0_5))
theorem spec_PacketOk.mono_l : ∀ k, (∀ y0 y1 y2 y3 y4 y5 y6, LeO (spec_PacketOk.j0 k y0 y1 y2 y3 y4 y5 y6) (spec_PacketOk.j0 (k + 1) y0 y1 y2 y3 y4 y5 y6)) ∧ (∀ y0 y1 y2 y3 y4 y5 y6, LeO (spec_PacketOk.l0 k y0 y1 y2 y3 y4 y5 y6) (spec_PacketOk.l0 (k + 1) y0 y1 y2 y3 y4 y5 y6)) ∧ (∀ y0 y1 y2 y3 y4 y5 y6, LeO (spec_PacketOk.j2 k y0 y1 y2 y3 y4 y5 y6) (spec_PacketOk.j2 (k + 1) y0 y1 y2 y3 y4 y5 y6)) ∧ (∀ y0 y1 y2 y3 y4 y5 y6, LeO (spec_PacketOk.l1 k y0 y1 y2 y3 y4 y5 y6) (spec_PacketOk.l1 (k + 1) y0 y1 y2 y3 y4 y5 y6))
 | 0 => ⟨fun _ _ _ _ _ _ _ r h => by simp [spec_PacketOk.j0] at h, fun _ _ _ _ _ _ _ r h => by simp [spec_PacketOk.l0] at h, fun _ _ _ _ _ _ _ r h => by simp [spec_PacketOk.j2] at h, fun _ _ _ _ _ _ _ r h => by simp [spec_PacketOk.l1] at h⟩
 | k + 1 => by
  obtain ⟨ih0, ih1, ih2, ih3⟩ := spec_PacketOk.mono_l k
  refine ⟨?_, ?_, ?_, ?_⟩
  ·intro y0 y1 y2 y3 y4 y5 y6
   unfold spec_PacketOk.j0
   repeat' first
   | (with_reducible exact ih0 _ _ _ _ _ _ _)
   | (with_reducible exact ih1 _ _ _ _ _ _ _)
   | (with_reducible exact ih2 _ _ _ _ _ _ _)
   | (with_reducible exact ih3 _ _ _ _ _ _ _)
   | (with_reducible exact spec_SameBody.mono _ _ _ _ _ _ _ _ _ _ _ _ _ _ _ _ _)
   | (with_reducible exact spec_StoreOk.mono _ _)
   | (with_reducible exact LeO.refl _)
   | (with_reducible exact LeO.none _)
   | (with_reducible refine LeO.ite ?_ ?_)
   | (with_reducible refine LeO.bind ?_ (fun _ => ?_))
   | exact ih0 _ _ _ _ _ _ _
   | exact ih1 _ _ _ _ _ _ _
   | exact ih2 _ _ _ _ _ _ _
   | exact ih3 _ _ _ _ _ _ _
   | exact spec_SameBody.mono _ _ _ _ _ _ _ _ _ _ _ _ _ _ _ _ _
   | exact spec_StoreOk.mono _ _
   | exact LeO.none _
   | refine LeO.ite ?_ ?_
   | refine LeO.bind ?_ (fun _ => ?_)
  ·intro y0 y1 y2 y3 y4 y5 y6
   unfold spec_PacketOk.l0
   repeat' first
   | (with_reducible exact ih0 _ _ _ _ _ _ _)
   | (with_reducible exact ih1 _ _ _ _ _ _ _)
   | (with_reducible exact ih2 _ _ _ _ _ _ _)
   | (with_reducible exact ih3 _ _ _ _ _ _ _)
   | (with_reducible exact spec_SameBody.mono _ _ _ _ _ _ _ _ _ _ _ _ _ _ _ _ _)
   | (with_reducible exact spec_StoreOk.mono _ _)
   | (with_reducible exact LeO.refl _)
   | (with_reducible exact LeO.none _)
   | (with_reducible refine LeO.ite ?_ ?_)
   | (with_reducible refine LeO.bind ?_ (fun _ => ?_))
   | exact ih0 _ _ _ _ _ _ _
   | exact ih1 _ _ _ _ _ _ _
   | exact ih2 _ _ _ _ _ _ _
   | exact ih3 _ _ _ _ _ _ _
   | exact spec_SameBody.mono _ _ _ _ _ _ _ _ _ _ _ _ _ _ _ _ _
   | exact spec_StoreOk.mono _ _
   | exact LeO.none _
   | refine LeO.ite ?_ ?_
   | refine LeO.bind ?_ (fun _ => ?_)
  ·intro y0 y1 y2 y3 y4 y5 y6
   unfold spec_PacketOk.j2
   repeat' first
   | (with_reducible exact ih0 _ _ _ _ _ _ _)
   | (with_reducible exact ih1 _ _ _ _ _ _ _)
   | (with_reducible exact ih2 _ _ _ _ _ _ _)
   | (with_reducible exact ih3 _ _ _ _ _ _ _)
   | (with_reducible exact spec_SameBody.mono _ _ _ _ _ _ _ _ _ _ _ _ _ _ _ _ _)
   | (with_reducible exact spec_StoreOk.mono _ _)
   | (with_reducible exact LeO.refl _)
   | (with_reducible exact LeO.none _)
   | (with_reducible refine LeO.ite ?_ ?_)
   | (with_reducible refine LeO.bind ?_ (fun _ => ?_))
   | exact ih0 _ _ _ _ _ _ _
   | exact ih1 _ _ _ _ _ _ _
   | exact ih2 _ _ _ _ _ _ _
   | exact ih3 _ _ _ _ _ _ _
   | exact spec_SameBody.mono _ _ _ _ _ _ _ _ _ _ _ _ _ _ _ _ _
   | exact spec_StoreOk.mono _ _
   | exact LeO.none _
   | refine LeO.ite ?_ ?_
   | refine LeO.bind ?_ (fun _ => ?_)
  ·intro y0 y1 y2 y3 y4 y5 y6
   unfold spec_PacketOk.l1
   repeat' first
   | (with_reducible exact ih0 _ _ _ _ _ _ _)
   | (with_reducible exact ih1 _ _ _ _ _ _ _)
   | (with_reducible exact ih2 _ _ _ _ _ _ _)
   | (with_reducible exact ih3 _ _ _ _ _ _ _)
   | (with_reducible exact spec_SameBody.mono _ _ _ _ _ _ _ _ _ _ _ _ _ _ _ _ _)
   | (with_reducible exact spec_StoreOk.mono _ _)
   | (with_reducible exact LeO.refl _)
   | (with_reducible exact LeO.none _)
   | (with_reducible refine LeO.ite ?_ ?_)
   | (with_reducible refine LeO.bind ?_ (fun _ => ?_))
   | exact ih0 _ _ _ _ _ _ _
   | exact ih1 _ _ _ _ _ _ _
   | exact ih2 _ _ _ _ _ _ _
   | exact ih3 _ _ _ _ _ _ _
   | exact spec_SameBody.mono _ _ _ _ _ _ _ _ _ _ _ _ _ _ _ _ _
   | exact spec_StoreOk.mono _ _
   | exact LeO.none _
   | refine LeO.ite ?_ ?_
   | refine LeO.bind ?_ (fun _ => ?_)
theorem spec_PacketOk.mono : ∀ a0 a1 a2 a3 a4 a5 k, LeO (spec_PacketOk.f k a0 a1 a2 a3 a4 a5) (spec_PacketOk.f (k + 1) a0 a1 a2 a3 a4 a5) := by
 intro a0 a1 a2 a3 a4 a5 k
 obtain ⟨ih0, ih1, ih2, ih3⟩ := spec_PacketOk.mono_l k
 unfold spec_PacketOk.f
 repeat' first
   | (with_reducible exact ih0 _ _ _ _ _ _ _)
   | (with_reducible exact ih1 _ _ _ _ _ _ _)
   | (with_reducible exact ih2 _ _ _ _ _ _ _)
   | (with_reducible exact ih3 _ _ _ _ _ _ _)
   | (with_reducible exact spec_SameBody.mono _ _ _ _ _ _ _ _ _ _ _ _ _ _ _ _ _)
   | (with_reducible exact spec_StoreOk.mono _ _)
   | (with_reducible exact LeO.refl _)
   | (with_reducible exact LeO.none _)
   | (with_reducible refine LeO.ite ?_ ?_)
   | (with_reducible refine LeO.bind ?_ (fun _ => ?_))
   | exact ih0 _ _ _ _ _ _ _
   | exact ih1 _ _ _ _ _ _ _
   | exact ih2 _ _ _ _ _ _ _
   | exact ih3 _ _ _ _ _ _ _
   | exact spec_SameBody.mono _ _ _ _ _ _ _ _ _ _ _ _ _ _ _ _ _
   | exact spec_StoreOk.mono _ _
   | exact LeO.none _
   | refine LeO.ite ?_ ?_
   | refine LeO.bind ?_ (fun _ => ?_)
def spec_PacketOk.T6 : Bool × List (List Nat × List Nat) := (true, [([], []), ([0], [0]), ([], []), ([1, 2], [1, 2]), ([3], [3]), ([4], [4]), ([5], [5]), ([6, 5], [6]), ([7], [7]), ([8, 7], [7, 8]), ([9, 7, 7], [7, 9]), ([10], [10]), ([11, 10], [10, 11]), ([10], [10]), ([13, 10], [10, 13]), ([12, 14, 10], [10, 12, 14]), ([15, 10], [10, 15]), ([10], [10]), ([17, 10], [10, 17]), ([10], [10]), ([18, 19, 10], [10, 18, 19]), ([20, 10], [10, 20]), ([16, 21, 10], [10, 16, 21]), ([10, 22, 7], [7, 10, 22]), ([7, 23], [7, 23])])
def spec_PacketOk.B6 : List Nat := [0, 1, 0, 7, 15, 31, 63, 127, 255, 511, 1023, 2047, 4095, 2047, 10239, 32767, 65535, 2047, 133119, 2047, 919551, 1968127, 4194303, 8388607, 16777215]
theorem spec_PacketOk.tab6 : rtab .any (opsOf Try.f30 6) = spec_PacketOk.T6 := by kernel_rfl
theorem spec_PacketOk.bits6 : waitsOk spec_PacketOk.T6.2 spec_PacketOk.B6 = true := by kernel_rfl
def spec_PacketOk.T14 : Bool × List (List Nat × List Nat) := (true, [([], []), ([0], [0]), ([], []), ([2], [2]), ([1, 3], [1, 3]), ([4], [4]), ([5], [5]), ([6, 5], [5, 6]), ([7, 5], [5, 7]), ([5, 8], [5, 8]), ([9, 5], [9]), ([10], [10]), ([11, 10], [10, 11]), ([12, 10], [10, 12]), ([13, 10, 10], [10, 13]), ([14], [14]), ([15, 14, 14], [14, 15]), ([16, 16, 14], [14, 16]), ([14], [14]), ([17, 18, 17, 14], [14, 17, 18]), ([19, 14], [14, 19]), ([14, 20, 10], [10, 14, 20]), ([10, 21], [10, 21])])
def spec_PacketOk.B14 : List Nat := [0, 1, 0, 4, 15, 31, 63, 127, 255, 511, 1023, 2047, 4095, 8191, 16383, 32767, 65535, 131071, 32767, 524287, 1048575, 2097151, 4194303]
theorem spec_PacketOk.tab14 : rtab .any (opsOf Try.f30 14) = spec_PacketOk.T14 := by kernel_rfl
theorem spec_PacketOk.bits14 : waitsOk spec_PacketOk.T14.2 spec_PacketOk.B14 = true := by kernel_rfl
set_option maxHeartbeats 8000000 in
set_option maxRecDepth 100000 in
theorem spec_PacketOk.calls (k : Nat) (a0_0 : Int) (a0_1 : Int) (a0_2 : Int) (a0_3 : Int) (A0_4 : Option Addr) (c0_4 : Nat) (l0_4 : List Int) (A0_5 : Option Addr) (c0_5 : Nat) (l0_5 : List (S24)) (r : Bool) (w : World) (hr0_4 : Kd.C (Kd.int .i64) w A0_4 l0_4.length l0_4) (hc0_4 : l0_4.length ≤ c0_4) (hr0_5 : Kd.C k24 w A0_5 l0_5.length l0_5) (hc0_5 : l0_5.length ≤ c0_5) (h : spec_PacketOk.f k a0_0 a0_1 a0_2 a0_3 l0_4 l0_5 = some r) :
  Calls Try.prog 30 #[.agg #[.int .i64 a0_0, .int .i64 a0_1, .int .i64 a0_2, .int .i64 a0_3, .slice A0_4 l0_4.length c0_4, .slice A0_5 l0_5.length c0_5]] w fun e w' => e = .returned (.bool r) ∧ Below w.heap.size w w' := by
 have hu39 := Try.underlying39; have hu24 := Try.underlying24; have HR0_4 := Aside0.mk hr0_4; have HC0_4 := Aside0.mk hc0_4; clear hr0_4 hc0_4; have HR0_5 := Aside0.mk hr0_5; have HC0_5 := Aside0.mk hc0_5; clear hr0_5 hc0_5; have HB := Aside0.mk (Below.refl w.heap.size w)
 have H : ((spec_l01In.f a0_0 1 3).bind fun t213 => (if t213 = true then ((spec_l01In.f a0_1 1 6).bind fun t214 => (if t214 = true then ((spec_l01In.f a0_2 1 6).bind fun t215 => (if t215 = true then (if a0_1 = a0_2 then (spec_PacketOk.j0 k true a0_0 a0_1 a0_2 a0_3 l0_4 l0_5) else ((spec_l01In.f a0_3 0 2).bind fun t216 => (spec_PacketOk.j0 k (!t216) a0_0 a0_1 a0_2 a0_3 l0_4 l0_5))) else (spec_PacketOk.j0 k true a0_0 a0_1 a0_2 a0_3 l0_4 l0_5))) else (spec_PacketOk.j0 k true a0_0 a0_1 a0_2 a0_3 l0_4 l0_5))) else (spec_PacketOk.j0 k true a0_0 a0_1 a0_2 a0_3 l0_4 l0_5))) = some r := h
 clear h; have HC2 := Aside0.mk H; clear H
 go_enter Try.func30, Try.ntmps30
 go_upto_region 1 with (first | ((with_reducible refine gate_dst (N := 1) rfl ?_); (try (refine gate_guard (by rfl) ?_; dsimp only)); refine box_q 1 #[.int .i64 a0_0, .int .i64 a0_1, .int .i64 a0_2, .int .i64 a0_3, .slice A0_4 l0_4.length c0_4, .slice A0_5 l0_5.length c0_5] 39 ?_; intro gb212 hg w3 hbox hb; have BK212 := Aside0.mk (hbox); have GW212 := Aside0.mk ((by rw [hg]; exact (below_size (bw_q HB)) : w.heap.size ≤ gb212)); have GE212 := Aside0.mk ((by rw [hg]; exact (below_size (bw_q HB)) : w.heap.size ≤ gb212)); replace HB := Aside0.mk (below_step (bw_q HB) hb); clear hb hbox hg))
 (try simp only [Act.put, List.setIfInBounds_toArray, List.set_cons_zero, List.set_cons_succ])
 go_cut [34] (fun v34 wc => ∃ (kq : Nat) (x34_1 : Bool), v34 = .bool x34_1 ∧ Aside0 (spec_PacketOk.j0 kq x34_1 a0_0 a0_1 a0_2 a0_3 l0_4 l0_5 = some r) ∧ Aside0 (kq ≤ k) ∧ Aside0 (wc.heap[gb212]? = some (.cells #[.int .i64 a0_0, .int .i64 a0_1, .int .i64 a0_2, .int .i64 a0_3, (.slice A0_4 l0_4.length c0_4), (.slice A0_5 l0_5.length c0_5)] 39 (0, 0))) ∧ Aside0 (Below w.heap.size w wc))
 case first =>
  have H := HC2.out; clear HC2; replace H := Option.bind_eq_some_iff.mp H; obtain ⟨t213, A40, H⟩ := H
  replace H : (if t213 = true then ((spec_l01In.f a0_1 1 6).bind fun t214 => (if t214 = true then ((spec_l01In.f a0_2 1 6).bind fun t215 => (if t215 = true then (if a0_1 = a0_2 then (spec_PacketOk.j0 k true a0_0 a0_1 a0_2 a0_3 l0_4 l0_5) else ((spec_l01In.f a0_3 0 2).bind fun t216 => (spec_PacketOk.j0 k (!t216) a0_0 a0_1 a0_2 a0_3 l0_4 l0_5))) else (spec_PacketOk.j0 k true a0_0 a0_1 a0_2 a0_3 l0_4 l0_5))) else (spec_PacketOk.j0 k true a0_0 a0_1 a0_2 a0_3 l0_4 l0_5))) else (spec_PacketOk.j0 k true a0_0 a0_1 a0_2 a0_3 l0_4 l0_5)) = some r := H
  have A4 := Aside0.mk A40; clear A40
  by_cases c5 : t213 = true
  ·subst c5
   replace H : ((spec_l01In.f a0_1 1 6).bind fun t214 => (if t214 = true then ((spec_l01In.f a0_2 1 6).bind fun t215 => (if t215 = true then (if a0_1 = a0_2 then (spec_PacketOk.j0 k true a0_0 a0_1 a0_2 a0_3 l0_4 l0_5) else ((spec_l01In.f a0_3 0 2).bind fun t216 => (spec_PacketOk.j0 k (!t216) a0_0 a0_1 a0_2 a0_3 l0_4 l0_5))) else (spec_PacketOk.j0 k true a0_0 a0_1 a0_2 a0_3 l0_4 l0_5))) else (spec_PacketOk.j0 k true a0_0 a0_1 a0_2 a0_3 l0_4 l0_5))) = some r := by rw [if_pos rfl] at H; exact H
   replace H := Option.bind_eq_some_iff.mp H; obtain ⟨t214, A60, H⟩ := H
   replace H : (if t214 = true then ((spec_l01In.f a0_2 1 6).bind fun t215 => (if t215 = true then (if a0_1 = a0_2 then (spec_PacketOk.j0 k true a0_0 a0_1 a0_2 a0_3 l0_4 l0_5) else ((spec_l01In.f a0_3 0 2).bind fun t216 => (spec_PacketOk.j0 k (!t216) a0_0 a0_1 a0_2 a0_3 l0_4 l0_5))) else (spec_PacketOk.j0 k true a0_0 a0_1 a0_2 a0_3 l0_4 l0_5))) else (spec_PacketOk.j0 k true a0_0 a0_1 a0_2 a0_3 l0_4 l0_5)) = some r := H
   have A6 := Aside0.mk A60; clear A60
   by_cases c7 : t214 = true
   ·subst c7
    replace H : ((spec_l01In.f a0_2 1 6).bind fun t215 => (if t215 = true then (if a0_1 = a0_2 then (spec_PacketOk.j0 k true a0_0 a0_1 a0_2 a0_3 l0_4 l0_5) else ((spec_l01In.f a0_3 0 2).bind fun t216 => (spec_PacketOk.j0 k (!t216) a0_0 a0_1 a0_2 a0_3 l0_4 l0_5))) else (spec_PacketOk.j0 k true a0_0 a0_1 a0_2 a0_3 l0_4 l0_5))) = some r := by rw [if_pos rfl] at H; exact H
    replace H := Option.bind_eq_some_iff.mp H; obtain ⟨t215, A80, H⟩ := H
    replace H : (if t215 = true then (if a0_1 = a0_2 then (spec_PacketOk.j0 k true a0_0 a0_1 a0_2 a0_3 l0_4 l0_5) else ((spec_l01In.f a0_3 0 2).bind fun t216 => (spec_PacketOk.j0 k (!t216) a0_0 a0_1 a0_2 a0_3 l0_4 l0_5))) else (spec_PacketOk.j0 k true a0_0 a0_1 a0_2 a0_3 l0_4 l0_5)) = some r := H
    have A8 := Aside0.mk A80; clear A80
    by_cases c9 : t215 = true
    ·subst c9
     replace H : (if a0_1 = a0_2 then (spec_PacketOk.j0 k true a0_0 a0_1 a0_2 a0_3 l0_4 l0_5) else ((spec_l01In.f a0_3 0 2).bind fun t216 => (spec_PacketOk.j0 k (!t216) a0_0 a0_1 a0_2 a0_3 l0_4 l0_5))) = some r := by rw [if_pos rfl] at H; exact H
     by_cases c10 : a0_1 = a0_2
     ·rw [if_pos c10] at H
      have c10b0 : (a0_1 == a0_2) = true := beq_iff_eq.mpr c10
      have c10b1 : (a0_1 != a0_2) = false := bne_eq_false_iff_eq.mpr c10
      clear c10
      (first | rw [c10b0] | rw [c10b1] | (simp only [i64_w, i32_w]; first | rw [c10b0] | rw [c10b1]) | skip)
      have H' := Aside0.mk H; clear H
      have hcz11_0 : w3.cell? ⟨gb212, 0, none⟩ = some (.int .i64 a0_0) := (blk_cell BK212.out 0).trans rfl
      have hcz11_1 : w3.cell? ⟨gb212, 1, none⟩ = some (.int .i64 a0_1) := (blk_cell BK212.out 1).trans rfl
      have hcz11_2 : w3.cell? ⟨gb212, 2, none⟩ = some (.int .i64 a0_2) := (blk_cell BK212.out 2).trans rfl
      have hcz11_3 : w3.cell? ⟨gb212, 3, none⟩ = some (.int .i64 a0_3) := (blk_cell BK212.out 3).trans rfl
      have hcz11_4 : w3.cell? ⟨gb212, 4, none⟩ = some (.slice A0_4 l0_4.length c0_4) := (blk_cell BK212.out 4).trans rfl
      have hcz11_5 : w3.cell? ⟨gb212, 5, none⟩ = some (.slice A0_5 l0_5.length c0_5) := (blk_cell BK212.out 5).trans rfl
      have hfz11_0 := blk_frozen BK212.out 0; have hfz11_1 := blk_frozen BK212.out 1; have hfz11_2 := blk_frozen BK212.out 2; have hfz11_3 := blk_frozen BK212.out 3; have hfz11_4 := blk_frozen BK212.out 4; have hfz11_5 := blk_frozen BK212.out 5
      go_wp2_with (first | ((with_reducible refine gate_callee (f := 67) rfl ?_); refine goesL_ (some 8) rfl rfl Try.func67 (by kernel_rfl) rfl #[.int .i64 a0_0, .int .i64 1, .int .i64 3] rfl mp_q ?_; (with_reducible refine (spec_l01In.calls a0_0 1 3 true _ A4.out).mono ?_); rintro e w' ⟨rfl, ⟨nd, rfl⟩⟩; refine ⟨_, rfl, ?_⟩) | (go_at_call 67; (with_reducible refine (spec_l01In.calls a0_1 1 6 true _ A6.out).mono ?_); rintro e w' ⟨rfl, ⟨nd, rfl⟩⟩) | (go_at_call 67; (with_reducible refine (spec_l01In.calls a0_2 1 6 true _ A8.out).mono ?_); rintro e w' ⟨rfl, ⟨nd, rfl⟩⟩))
      go_meet
      case rel => exact ⟨_, (true), (by first | rfl | (simp; done) | (simp [*]; done)), H', ⟨by first | omega | exact Nat.le_refl _⟩, ⟨by refine bz_ ?_; exact BK212.out⟩, ⟨bw_q HB⟩⟩
     ·rw [if_neg c10] at H
      have c10b0 : (a0_1 == a0_2) = false := beq_eq_false_iff_ne.mpr c10
      have c10b1 : (a0_1 != a0_2) = true := bne_iff_ne.mpr c10
      (first | rw [c10b0] | rw [c10b1] | (simp only [i64_w, i32_w]; first | rw [c10b0] | rw [c10b1]) | skip)
      replace H := Option.bind_eq_some_iff.mp H; obtain ⟨t216, A120, H⟩ := H
      replace H : (spec_PacketOk.j0 k (!t216) a0_0 a0_1 a0_2 a0_3 l0_4 l0_5) = some r := H
      have A12 := Aside0.mk A120; clear A120; have H' := Aside0.mk H; clear H
      have hcz13_0 : w3.cell? ⟨gb212, 0, none⟩ = some (.int .i64 a0_0) := (blk_cell BK212.out 0).trans rfl
      have hcz13_1 : w3.cell? ⟨gb212, 1, none⟩ = some (.int .i64 a0_1) := (blk_cell BK212.out 1).trans rfl
      have hcz13_2 : w3.cell? ⟨gb212, 2, none⟩ = some (.int .i64 a0_2) := (blk_cell BK212.out 2).trans rfl
      have hcz13_3 : w3.cell? ⟨gb212, 3, none⟩ = some (.int .i64 a0_3) := (blk_cell BK212.out 3).trans rfl
      have hcz13_4 : w3.cell? ⟨gb212, 4, none⟩ = some (.slice A0_4 l0_4.length c0_4) := (blk_cell BK212.out 4).trans rfl
      have hcz13_5 : w3.cell? ⟨gb212, 5, none⟩ = some (.slice A0_5 l0_5.length c0_5) := (blk_cell BK212.out 5).trans rfl
      have hfz13_0 := blk_frozen BK212.out 0; have hfz13_1 := blk_frozen BK212.out 1; have hfz13_2 := blk_frozen BK212.out 2; have hfz13_3 := blk_frozen BK212.out 3; have hfz13_4 := blk_frozen BK212.out 4; have hfz13_5 := blk_frozen BK212.out 5
      go_wp2_with (first | ((with_reducible refine gate_callee (f := 67) rfl ?_); refine goesL_ (some 8) rfl rfl Try.func67 (by kernel_rfl) rfl #[.int .i64 a0_0, .int .i64 1, .int .i64 3] rfl mp_q ?_; (with_reducible refine (spec_l01In.calls a0_0 1 3 true _ A4.out).mono ?_); rintro e w' ⟨rfl, ⟨nd, rfl⟩⟩; refine ⟨_, rfl, ?_⟩) | (go_at_call 67; (with_reducible refine (spec_l01In.calls a0_1 1 6 true _ A6.out).mono ?_); rintro e w' ⟨rfl, ⟨nd, rfl⟩⟩) | (go_at_call 67; (with_reducible refine (spec_l01In.calls a0_2 1 6 true _ A8.out).mono ?_); rintro e w' ⟨rfl, ⟨nd, rfl⟩⟩) | (go_at_call 67; (with_reducible refine (spec_l01In.calls a0_3 0 2 t216 _ A12.out).mono ?_); rintro e w' ⟨rfl, ⟨nd, rfl⟩⟩))
      go_meet
      case rel => exact ⟨_, (!t216), (by first | rfl | (simp; done) | (simp [*]; done)), H', ⟨by first | omega | exact Nat.le_refl _⟩, ⟨by refine bz_ ?_; exact BK212.out⟩, ⟨bw_q HB⟩⟩
    ·replace c9 := Bool.eq_false_iff.mpr c9; subst c9
     replace H : (spec_PacketOk.j0 k true a0_0 a0_1 a0_2 a0_3 l0_4 l0_5) = some r := by rw [if_neg (show ¬ (false = true) by decide)] at H; exact H
     have H' := Aside0.mk H; clear H
     have hcz14_0 : w3.cell? ⟨gb212, 0, none⟩ = some (.int .i64 a0_0) := (blk_cell BK212.out 0).trans rfl
     have hcz14_1 : w3.cell? ⟨gb212, 1, none⟩ = some (.int .i64 a0_1) := (blk_cell BK212.out 1).trans rfl
     have hcz14_2 : w3.cell? ⟨gb212, 2, none⟩ = some (.int .i64 a0_2) := (blk_cell BK212.out 2).trans rfl
     have hcz14_3 : w3.cell? ⟨gb212, 3, none⟩ = some (.int .i64 a0_3) := (blk_cell BK212.out 3).trans rfl
     have hcz14_4 : w3.cell? ⟨gb212, 4, none⟩ = some (.slice A0_4 l0_4.length c0_4) := (blk_cell BK212.out 4).trans rfl
     have hcz14_5 : w3.cell? ⟨gb212, 5, none⟩ = some (.slice A0_5 l0_5.length c0_5) := (blk_cell BK212.out 5).trans rfl
     have hfz14_0 := blk_frozen BK212.out 0; have hfz14_1 := blk_frozen BK212.out 1; have hfz14_2 := blk_frozen BK212.out 2; have hfz14_3 := blk_frozen BK212.out 3; have hfz14_4 := blk_frozen BK212.out 4; have hfz14_5 := blk_frozen BK212.out 5
     go_wp2_with (first | ((with_reducible refine gate_callee (f := 67) rfl ?_); refine goesL_ (some 8) rfl rfl Try.func67 (by kernel_rfl) rfl #[.int .i64 a0_0, .int .i64 1, .int .i64 3] rfl mp_q ?_; (with_reducible refine (spec_l01In.calls a0_0 1 3 true _ A4.out).mono ?_); rintro e w' ⟨rfl, ⟨nd, rfl⟩⟩; refine ⟨_, rfl, ?_⟩) | (go_at_call 67; (with_reducible refine (spec_l01In.calls a0_1 1 6 true _ A6.out).mono ?_); rintro e w' ⟨rfl, ⟨nd, rfl⟩⟩) | (go_at_call 67; (with_reducible refine (spec_l01In.calls a0_2 1 6 false _ A8.out).mono ?_); rintro e w' ⟨rfl, ⟨nd, rfl⟩⟩))
     go_meet
     case rel => exact ⟨_, (true), (by first | rfl | (simp; done) | (simp [*]; done)), H', ⟨by first | omega | exact Nat.le_refl _⟩, ⟨by refine bz_ ?_; exact BK212.out⟩, ⟨bw_q HB⟩⟩
   ·replace c7 := Bool.eq_false_iff.mpr c7; subst c7
    replace H : (spec_PacketOk.j0 k true a0_0 a0_1 a0_2 a0_3 l0_4 l0_5) = some r := by rw [if_neg (show ¬ (false = true) by decide)] at H; exact H
    have H' := Aside0.mk H; clear H
    have hcz15_0 : w3.cell? ⟨gb212, 0, none⟩ = some (.int .i64 a0_0) := (blk_cell BK212.out 0).trans rfl
    have hcz15_1 : w3.cell? ⟨gb212, 1, none⟩ = some (.int .i64 a0_1) := (blk_cell BK212.out 1).trans rfl
    have hcz15_2 : w3.cell? ⟨gb212, 2, none⟩ = some (.int .i64 a0_2) := (blk_cell BK212.out 2).trans rfl
    have hcz15_3 : w3.cell? ⟨gb212, 3, none⟩ = some (.int .i64 a0_3) := (blk_cell BK212.out 3).trans rfl
    have hcz15_4 : w3.cell? ⟨gb212, 4, none⟩ = some (.slice A0_4 l0_4.length c0_4) := (blk_cell BK212.out 4).trans rfl
    have hcz15_5 : w3.cell? ⟨gb212, 5, none⟩ = some (.slice A0_5 l0_5.length c0_5) := (blk_cell BK212.out 5).trans rfl
    have hfz15_0 := blk_frozen BK212.out 0; have hfz15_1 := blk_frozen BK212.out 1; have hfz15_2 := blk_frozen BK212.out 2; have hfz15_3 := blk_frozen BK212.out 3; have hfz15_4 := blk_frozen BK212.out 4; have hfz15_5 := blk_frozen BK212.out 5
    go_wp2_with (first | ((with_reducible refine gate_callee (f := 67) rfl ?_); refine goesL_ (some 8) rfl rfl Try.func67 (by kernel_rfl) rfl #[.int .i64 a0_0, .int .i64 1, .int .i64 3] rfl mp_q ?_; (with_reducible refine (spec_l01In.calls a0_0 1 3 true _ A4.out).mono ?_); rintro e w' ⟨rfl, ⟨nd, rfl⟩⟩; refine ⟨_, rfl, ?_⟩) | (go_at_call 67; (with_reducible refine (spec_l01In.calls a0_1 1 6 false _ A6.out).mono ?_); rintro e w' ⟨rfl, ⟨nd, rfl⟩⟩))
    go_meet
    case rel => exact ⟨_, (true), (by first | rfl | (simp; done) | (simp [*]; done)), H', ⟨by first | omega | exact Nat.le_refl _⟩, ⟨by refine bz_ ?_; exact BK212.out⟩, ⟨bw_q HB⟩⟩
  ·replace c5 := Bool.eq_false_iff.mpr c5; subst c5
   replace H : (spec_PacketOk.j0 k true a0_0 a0_1 a0_2 a0_3 l0_4 l0_5) = some r := by rw [if_neg (show ¬ (false = true) by decide)] at H; exact H
   have H' := Aside0.mk H; clear H
   have hcz16_0 : w3.cell? ⟨gb212, 0, none⟩ = some (.int .i64 a0_0) := (blk_cell BK212.out 0).trans rfl
   have hcz16_1 : w3.cell? ⟨gb212, 1, none⟩ = some (.int .i64 a0_1) := (blk_cell BK212.out 1).trans rfl
   have hcz16_2 : w3.cell? ⟨gb212, 2, none⟩ = some (.int .i64 a0_2) := (blk_cell BK212.out 2).trans rfl
   have hcz16_3 : w3.cell? ⟨gb212, 3, none⟩ = some (.int .i64 a0_3) := (blk_cell BK212.out 3).trans rfl
   have hcz16_4 : w3.cell? ⟨gb212, 4, none⟩ = some (.slice A0_4 l0_4.length c0_4) := (blk_cell BK212.out 4).trans rfl
   have hcz16_5 : w3.cell? ⟨gb212, 5, none⟩ = some (.slice A0_5 l0_5.length c0_5) := (blk_cell BK212.out 5).trans rfl
   have hfz16_0 := blk_frozen BK212.out 0; have hfz16_1 := blk_frozen BK212.out 1; have hfz16_2 := blk_frozen BK212.out 2; have hfz16_3 := blk_frozen BK212.out 3; have hfz16_4 := blk_frozen BK212.out 4; have hfz16_5 := blk_frozen BK212.out 5
   go_wp2_with (first | ((with_reducible refine gate_callee (f := 67) rfl ?_); refine goesL_ (some 8) rfl rfl Try.func67 (by kernel_rfl) rfl #[.int .i64 a0_0, .int .i64 1, .int .i64 3] rfl mp_q ?_; (with_reducible refine (spec_l01In.calls a0_0 1 3 false _ A4.out).mono ?_); rintro e w' ⟨rfl, ⟨nd, rfl⟩⟩; refine ⟨_, rfl, ?_⟩))
   go_meet
   case rel => exact ⟨_, (true), (by first | rfl | (simp; done) | (simp [*]; done)), H', ⟨by first | omega | exact Nat.le_refl _⟩, ⟨by refine bz_ ?_; exact BK212.out⟩, ⟨bw_q HB⟩⟩
 case rest =>
  clear HC2; (try clear c1); (try clear p2); (try clear c3); (try clear c5); (try clear c6); (try clear c7); (try clear c9); (try clear c10); (try clear c10b0); (try clear c10b1); (try clear hcz11_0); (try clear hcz11_1); (try clear hcz11_2); (try clear hcz11_3); (try clear hcz11_4); (try clear hcz11_5); (try clear hcz13_0); (try clear hcz13_1); (try clear hcz13_2); (try clear hcz13_3); (try clear hcz13_4); (try clear hcz13_5); (try clear hcz14_0); (try clear hcz14_1); (try clear hcz14_2); (try clear hcz14_3); (try clear hcz14_4); (try clear hcz14_5); (try clear hcz15_0); (try clear hcz15_1); (try clear hcz15_2); (try clear hcz15_3); (try clear hcz15_4); (try clear hcz15_5); (try clear hcz16_0); (try clear hcz16_1); (try clear hcz16_2); (try clear hcz16_3); (try clear hcz16_4); (try clear hcz16_5); (try clear hfz11_0); (try clear hfz11_1); (try clear hfz11_2); (try clear hfz11_3); (try clear hfz11_4); (try clear hfz11_5); (try clear hfz13_0); (try clear hfz13_1); (try clear hfz13_2); (try clear hfz13_3); (try clear hfz13_4); (try clear hfz13_5); (try clear hfz14_0); (try clear hfz14_1); (try clear hfz14_2); (try clear hfz14_3); (try clear hfz14_4); (try clear hfz14_5); (try clear hfz15_0); (try clear hfz15_1); (try clear hfz15_2); (try clear hfz15_3); (try clear hfz15_4); (try clear hfz15_5); (try clear hfz16_0); (try clear hfz16_1); (try clear hfz16_2); (try clear hfz16_3); (try clear hfz16_4); (try clear hfz16_5); obtain ⟨kq, x34_1, rfl, HA, HJ1, BK212, HB⟩ := hcut
  cases kq with
  | zero => exact absurd HA.out (by simp [spec_PacketOk.j0])
  | succ kj1 =>
   have H := HA.out; clear HA
   simp only [spec_PacketOk.j0] at H
   by_cases c17 : x34_1 = true
   ·subst c17
    replace H : (some false) = some r := by rw [if_pos rfl] at H; exact H
    obtain rfl := Option.some.inj H
    go_wp2
    go_ret
    exact ⟨er_q, bw_q HB⟩
   ·replace c17 := Bool.eq_false_iff.mpr c17; subst c17
    replace H : (spec_PacketOk.l0 kj1 0 a0_0 a0_1 a0_2 a0_3 l0_4 l0_5) = some r := by rw [if_neg (show ¬ (false = true) by decide)] at H; exact H
    have H' := Aside0.mk H; clear H
    go_wp2
    go_loopg [3] kj1 (fun kq v3 w' => ∃ (x3_2 : Int), v3 = .int .i64 x3_2 ∧ Aside0 (spec_PacketOk.l0 kq x3_2 a0_0 a0_1 a0_2 a0_3 l0_4 l0_5 = some r) ∧ Aside0 (kq ≤ kj1) ∧ Aside0 (w'.heap[gb212]? = some (.cells #[.int .i64 a0_0, .int .i64 a0_1, .int .i64 a0_2, .int .i64 a0_3, (.slice A0_4 l0_4.length c0_4), (.slice A0_5 l0_5.length c0_5)] 39 (0, 0))) ∧ Aside0 (Below w.heap.size w w'))
    case atStart => exact ⟨(0), (by first | rfl | (simp; done) | (simp [*]; done)), H', ⟨Nat.le_refl _⟩, ⟨by refine bz_ ?_; exact BK212.out⟩, ⟨bw_q HB⟩⟩
    case round =>
     clear H'; (try clear c1); (try clear p2); (try clear c3); (try clear c5); (try clear c6); (try clear c7); (try clear c9); (try clear c10); (try clear c10b0); (try clear c10b1); (try clear c17); (try clear hcz11_0); (try clear hcz11_1); (try clear hcz11_2); (try clear hcz11_3); (try clear hcz11_4); (try clear hcz11_5); (try clear hcz13_0); (try clear hcz13_1); (try clear hcz13_2); (try clear hcz13_3); (try clear hcz13_4); (try clear hcz13_5); (try clear hcz14_0); (try clear hcz14_1); (try clear hcz14_2); (try clear hcz14_3); (try clear hcz14_4); (try clear hcz14_5); (try clear hcz15_0); (try clear hcz15_1); (try clear hcz15_2); (try clear hcz15_3); (try clear hcz15_4); (try clear hcz15_5); (try clear hcz16_0); (try clear hcz16_1); (try clear hcz16_2); (try clear hcz16_3); (try clear hcz16_4); (try clear hcz16_5); (try clear hfz11_0); (try clear hfz11_1); (try clear hfz11_2); (try clear hfz11_3); (try clear hfz11_4); (try clear hfz11_5); (try clear hfz13_0); (try clear hfz13_1); (try clear hfz13_2); (try clear hfz13_3); (try clear hfz13_4); (try clear hfz13_5); (try clear hfz14_0); (try clear hfz14_1); (try clear hfz14_2); (try clear hfz14_3); (try clear hfz14_4); (try clear hfz14_5); (try clear hfz15_0); (try clear hfz15_1); (try clear hfz15_2); (try clear hfz15_3); (try clear hfz15_4); (try clear hfz15_5); (try clear hfz16_0); (try clear hfz16_1); (try clear hfz16_2); (try clear hfz16_3); (try clear hfz16_4); (try clear hfz16_5); (try clear p2); obtain ⟨x3_2, rfl, HA, HK2, BK212, HB⟩ := hrel
     cases gk with
     | zero => exact absurd HA.out (by simp [spec_PacketOk.l0])
     | succ k2 =>
      have H := HA.out; clear HA
      simp only [spec_PacketOk.l0] at H
      by_cases c18 : x3_2 < (l0_4.length : Int)
      ·rw [if_pos c18] at H
       have c18b0 : decide (x3_2 < (l0_4.length : Int)) = true := decide_eq_true c18
       clear c18
       by_cases c19 : 0 ≤ x3_2
       ·rw [if_pos c19] at H
        have c19b0 : decide (0 ≤ x3_2) = true := decide_eq_true c19
        clear c19; replace H := Option.bind_eq_some_iff.mp H; obtain ⟨t218, A200, H⟩ := H
        replace H : (if t218 = true then (if x3_2 > 0 then (if 0 ≤ (wrap64 (x3_2 - 1)) then (if (wrap64 (x3_2 - 1)) < (l0_4.length : Int) then (if (rd l0_4 (wrap64 (x3_2 - 1))) ≥ (rd l0_4 x3_2) then (some false) else (spec_PacketOk.l0 k2 (wrap64 (x3_2 + 1)) a0_0 a0_1 a0_2 a0_3 l0_4 l0_5)) else (none)) else (none)) else (spec_PacketOk.l0 k2 (wrap64 (x3_2 + 1)) a0_0 a0_1 a0_2 a0_3 l0_4 l0_5)) else (some false)) = some r := H
        have A20 := Aside0.mk A200; clear A200; have HZ11 := Aside0.mk H; clear H
        have hcz27_0 : wr.cell? ⟨gb212, 0, none⟩ = some (.int .i64 a0_0) := (blk_cell BK212.out 0).trans rfl
        have hcz27_1 : wr.cell? ⟨gb212, 1, none⟩ = some (.int .i64 a0_1) := (blk_cell BK212.out 1).trans rfl
        have hcz27_2 : wr.cell? ⟨gb212, 2, none⟩ = some (.int .i64 a0_2) := (blk_cell BK212.out 2).trans rfl
        have hcz27_3 : wr.cell? ⟨gb212, 3, none⟩ = some (.int .i64 a0_3) := (blk_cell BK212.out 3).trans rfl
        have hcz27_4 : wr.cell? ⟨gb212, 4, none⟩ = some (.slice A0_4 l0_4.length c0_4) := (blk_cell BK212.out 4).trans rfl
        have hcz27_5 : wr.cell? ⟨gb212, 5, none⟩ = some (.slice A0_5 l0_5.length c0_5) := (blk_cell BK212.out 5).trans rfl
        have hfz27_0 := blk_frozen BK212.out 0; have hfz27_1 := blk_frozen BK212.out 1; have hfz27_2 := blk_frozen BK212.out 2; have hfz27_3 := blk_frozen BK212.out 3; have hfz27_4 := blk_frozen BK212.out 4; have hfz27_5 := blk_frozen BK212.out 5
        try go_wp2
        replace BK212 := Aside0.mk (blk_drew BK212.out); replace HB := Aside0.mk (below_drew1 HB.out)
        have p217 : 0 ≤ (x3_2 : Int) := of_decide_eq_true as_q
        have q217 : x3_2 < (l0_4.length : Int) := of_decide_eq_true as_q
        obtain ⟨ad217, e217, hx217_0⟩ := Kd.at_int HR0_4.out x3_2 p217 q217; have hw217_0 := hx217_0
        cases e217
        replace hx217_0 := (HB.out.cell (World.block_lt_of_cell? w _ hx217_0)).trans hx217_0
        replace p217 := eq_true p217; replace q217 := eq_true q217
        refine start_ (n := 25) (S := fun w' => w'.cell? ⟨gb212, 0, none⟩ = some (.int .i64 a0_0) ∧ w'.cell? ⟨gb212, 1, none⟩ = some (.int .i64 a0_1) ∧ w'.cell? ⟨gb212, 2, none⟩ = some (.int .i64 a0_2) ∧ w'.cell? ⟨gb212, 3, none⟩ = some (.int .i64 a0_3) ∧ w'.cell? ⟨gb212, 4, none⟩ = some (.slice (some ad217) l0_4.length c0_4) ∧ w'.cell? ⟨gb212, 5, none⟩ = some (.slice A0_5 l0_5.length c0_5) ∧ w'.cell? (ad217.add (x3_2).toNat) = some (.int .i64 (rd l0_4 x3_2))) (ds := []) (bL 25 0) (by kernel_rfl) rfl rfl ⟨(blk_cell BK212.out 0).trans rfl, (blk_cell BK212.out 1).trans rfl, (blk_cell BK212.out 2).trans rfl, (blk_cell BK212.out 3).trans rfl, (blk_cell BK212.out 4).trans rfl, (blk_cell BK212.out 5).trans rfl, ((HB.out.cell (World.block_lt_of_cell? w _ hw217_0)).trans hw217_0)⟩ (fun hHeld => ?_); refine with_tabW spec_PacketOk.tab6 spec_PacketOk.bits6 (fun HT_ HW_ => ?_)
        generalize wr.drew = w28 at BK212 HB hx217_0 hHeld ⊢
        refine pq_ 0 42 (bL 25 1) HT_.out rfl rfl ?_
        refine pq_ 2 44 (bL 25 5) HT_.out rfl rfl ?_
        refine take_ (i := 1) (N := some 43) (v := ?_) (a' := ?_) (bL 25 7) rfl rfl (take_ofW HT_.out HW_.out (by kernel_rfl)) (fun _ _ _ h => h) (Or.inl ⟨by rfl, ?_⟩) hHeld ?_ ?_; rotate_left; (rintro w' ⟨s0, s1, s2, s3, s4, s5, s6⟩; go_simp; with_reducible rfl); rotate_left; (exact put_q)
        refine pq_ 3 45 (bL 25 15) HT_.out rfl rfl ?_
        refine take_ (i := 4) (N := some 46) (v := ?_) (a' := ?_) (bL 25 31) rfl rfl (take_ofW HT_.out HW_.out (by kernel_rfl)) (fun _ _ _ h => h) (Or.inl ⟨by rfl, ?_⟩) hHeld ?_ ?_; rotate_left; (rintro w' ⟨s0, s1, s2, s3, s4, s5, s6⟩; go_simp; with_reducible rfl); rotate_left; (exact put_q)
        refine one_ (i := 5) (N := some 47) (bL 25 63) rfl rfl (one_of HT_.out (by kernel_rfl)) (by decide) (fun K hK => ?_)
        refine goes_ Try.func67 (by kernel_rfl) rfl #[.int .i64 (rd l0_4 x3_2), .int .i64 1, .int .i64 6] (by rfl) rfl rfl mp_q ?_
        with_reducible refine (spec_l01In.calls (rd l0_4 x3_2) 1 6 t218 _ A20.out).mono ?_
        rintro e w' ⟨rfl, ⟨nd, rfl⟩⟩
        refine ⟨_, rfl, ?_⟩
        refine hK.out _ _ ⟨(blk_cell BK212.out 0).trans rfl, (blk_cell BK212.out 1).trans rfl, (blk_cell BK212.out 2).trans rfl, (blk_cell BK212.out 3).trans rfl, (blk_cell BK212.out 4).trans rfl, (blk_cell BK212.out 5).trans rfl, ((HB.out.cell (World.block_lt_of_cell? w _ hw217_0)).trans hw217_0)⟩ (fun hHeld => ?_)
        clear hK K
        refine norm_ (a' := ?_) ?_ ?_; rotate_left; (show Act.put _ (some 47) _ = _; simp only [Act.put, List.setIfInBounds_toArray, List.set_cons_zero, List.set_cons_succ, i64_w, i32_w]; rfl)
        refine pq_ 6 48 (bL 25 127) HT_.out rfl rfl ?_
        refine pq_ 7 49 (bL 25 255) HT_.out rfl rfl ?_
        have H := HZ11.out; clear HZ11
        by_cases c21 : t218 = true
        ·subst c21
         replace H : (if x3_2 > 0 then (if 0 ≤ (wrap64 (x3_2 - 1)) then (if (wrap64 (x3_2 - 1)) < (l0_4.length : Int) then (if (rd l0_4 (wrap64 (x3_2 - 1))) ≥ (rd l0_4 x3_2) then (some false) else (spec_PacketOk.l0 k2 (wrap64 (x3_2 + 1)) a0_0 a0_1 a0_2 a0_3 l0_4 l0_5)) else (none)) else (none)) else (spec_PacketOk.l0 k2 (wrap64 (x3_2 + 1)) a0_0 a0_1 a0_2 a0_3 l0_4 l0_5)) = some r := by rw [if_pos rfl] at H; exact H
         have HZ12 := Aside0.mk H; clear H
         refine pq_ 8 50 (bL 25 511) HT_.out rfl rfl ?_
         refine pq_ 9 51 (bL 25 1023) HT_.out rfl rfl ?_
         refine pq_ 10 52 (bL 25 2047) HT_.out rfl rfl ?_
         have H := HZ12.out; clear HZ12
         by_cases c22 : x3_2 > 0
         ·rw [if_pos c22] at H
          have c22b0 : decide (0 < x3_2) = true := decide_eq_true c22
          (first | rw [c22b0] | (simp only [i64_w, i32_w]; first | rw [c22b0]) | skip)
          clear c22; obtain ⟨ji23, hji23⟩ : ∃ j_ : Int, (wrap64 (x3_2 - 1)) = j_ := ⟨_, rfl⟩
          replace H : (if 0 ≤ (ji23) then (if (ji23) < (l0_4.length : Int) then (if (rd l0_4 (ji23)) ≥ (rd l0_4 x3_2) then (some false) else (spec_PacketOk.l0 k2 (wrap64 (x3_2 + 1)) a0_0 a0_1 a0_2 a0_3 l0_4 l0_5)) else (none)) else (none)) = some r := by first | (rw [hji23] at H; exact H) | (simp only [hji23] at H ⊢; exact H)
          (try rw [hji23] at A20)
          have hji23w : (IntKind.i64.wrap (x3_2 - 1)) = ji23 := (i64_w _).trans hji23
          by_cases c24 : 0 ≤ (ji23)
          ·rw [if_pos c24] at H
           have c24b0 : decide (0 ≤ (ji23)) = true := decide_eq_true c24
           clear c24
           by_cases c25 : (ji23) < (l0_4.length : Int)
           ·rw [if_pos c25] at H
            have c25b0 : decide ((ji23) < (l0_4.length : Int)) = true := decide_eq_true c25
            clear c25; have HZ13 := Aside0.mk H; clear H
            have p219 : 0 ≤ ((ji23) : Int) := of_decide_eq_true as_q
            have q219 : (ji23) < (l0_4.length : Int) := of_decide_eq_true as_q
            obtain ⟨ad219, e219, hx219_0⟩ := Kd.at_int HR0_4.out (ji23) p219 q219; have hw219_0 := hx219_0
            obtain rfl : ad217 = ad219 := (by injection e219)
            replace hx219_0 := (HB.out.cell (World.block_lt_of_cell? w _ hx219_0)).trans hx219_0
            replace p219 := eq_true p219; replace q219 := eq_true q219
            refine last_weaken (fun w' => w'.cell? ⟨gb212, 0, none⟩ = some (.int .i64 a0_0) ∧ w'.cell? ⟨gb212, 1, none⟩ = some (.int .i64 a0_1) ∧ w'.cell? ⟨gb212, 2, none⟩ = some (.int .i64 a0_2) ∧ w'.cell? ⟨gb212, 3, none⟩ = some (.int .i64 a0_3) ∧ w'.cell? ⟨gb212, 4, none⟩ = some (.slice (some ad217) l0_4.length c0_4) ∧ w'.cell? ⟨gb212, 5, none⟩ = some (.slice A0_5 l0_5.length c0_5) ∧ w'.cell? (ad217.add (x3_2).toNat) = some (.int .i64 (rd l0_4 x3_2)) ∧ w'.cell? (ad217.add ((ji23)).toNat) = some (.int .i64 (rd l0_4 (ji23)))) (fun w' h_ => ⟨h_.1, h_.2.1, h_.2.2.1, h_.2.2.2.1, h_.2.2.2.2.1, h_.2.2.2.2.2.1, h_.2.2.2.2.2.2.1⟩) ⟨hHeld.1, hHeld.2.1, hHeld.2.2.1, hHeld.2.2.2.1, hHeld.2.2.2.2.1, hHeld.2.2.2.2.2.1, hHeld.2.2.2.2.2.2, (by first | assumption | exact ((HB.out.cell (World.block_lt_of_cell? w _ hw219_0)).trans hw219_0))⟩ (fun hHeld => ?_)
            refine pq_ 11 53 (bL 25 4095) HT_.out rfl rfl ?_
            refine pq_ 13 55 (bL 25 12287) HT_.out rfl rfl ?_
            refine pq_ 14 56 (bL 25 28671) HT_.out rfl rfl ?_
            refine pq_ 17 59 (bL 25 159743) HT_.out rfl rfl ?_
            refine pq_ 19 61 (bL 25 684031) HT_.out rfl rfl ?_
            refine take_ (i := 12) (N := some 54) (v := ?_) (a' := ?_) (bL 25 688127) rfl rfl (take_ofW HT_.out HW_.out (by kernel_rfl)) (fun _ _ _ h => h) (Or.inl ⟨by rfl, ?_⟩) hHeld ?_ ?_; rotate_left; (rintro w' ⟨s0, s1, s2, s3, s4, s5, s6, s7⟩; go_simp; with_reducible rfl); rotate_left; (exact put_q)
            refine pq_ 15 57 (bL 25 720895) HT_.out rfl rfl ?_
            refine take_ (i := 16) (N := some 58) (v := ?_) (a' := ?_) (bL 25 786431) rfl rfl (take_ofW HT_.out HW_.out (by kernel_rfl)) (fun _ _ _ h => h) (Or.inl ⟨by rfl, ?_⟩) hHeld ?_ ?_; rotate_left; (rintro w' ⟨s0, s1, s2, s3, s4, s5, s6, s7⟩; go_simp; with_reducible rfl); rotate_left; (exact put_q)
            refine take_ (i := 18) (N := some 60) (v := ?_) (a' := ?_) (bL 25 1048575) rfl rfl (take_ofW HT_.out HW_.out (by kernel_rfl)) (fun _ _ _ h => h) (Or.inl ⟨by rfl, ?_⟩) hHeld ?_ ?_; rotate_left; (rintro w' ⟨s0, s1, s2, s3, s4, s5, s6, s7⟩; go_simp; with_reducible rfl); rotate_left; (exact put_q)
            refine pq_ 20 62 (bL 25 2097151) HT_.out rfl rfl ?_
            refine take_ (i := 21) (N := some 63) (v := ?_) (a' := ?_) (bL 25 4194303) rfl rfl (take_ofW HT_.out HW_.out (by kernel_rfl)) (fun _ _ _ h => h) (Or.inl ⟨by rfl, ?_⟩) hHeld ?_ ?_; rotate_left; (rintro w' ⟨s0, s1, s2, s3, s4, s5, s6, s7⟩; go_simp; with_reducible rfl); rotate_left; (exact put_q)
            refine pq_ 22 64 (bL 25 8388607) HT_.out rfl rfl ?_
            refine pq_ 23 65 (bL 25 16777215) HT_.out rfl rfl ?_
            refine pq_ 24 66 (bL 25 33554431) HT_.out rfl rfl ?_
            have H := HZ13.out; clear HZ13
            by_cases c26 : (rd l0_4 (ji23)) ≥ (rd l0_4 x3_2)
            ·rw [if_pos c26] at H
             have c26b0 : decide ((rd l0_4 x3_2) ≤ (rd l0_4 (ji23))) = true := decide_eq_true c26
             (first | rw [c26b0] | (simp only [i64_w, i32_w]; first | rw [c26b0]) | skip)
             clear c26; obtain rfl := Option.some.inj H
             refine done_ (done_of HT_.out (by kernel_rfl)) ?_
             try go_wp2
             go_ret
             exact ⟨by first | rfl | (simp [errW_none, errW_some] <;> rfl) | (simp only [← hji23]; first | rfl | (simp [errW_none, errW_some] <;> rfl)) | (simp [*, errW_none, errW_some] <;> rfl), bw_q HB⟩
            ·rw [if_neg c26] at H
             have c26b0 : decide ((rd l0_4 x3_2) ≤ (rd l0_4 (ji23))) = false := decide_eq_false c26
             (first | rw [c26b0] | (simp only [i64_w, i32_w]; first | rw [c26b0]) | skip)
             clear c26; have H' := Aside0.mk H; clear H
             refine done_ (done_of HT_.out (by kernel_rfl)) ?_
             try go_wp2
             go_roundg k2
             case measure => have := HJ1.out; have := HK2.out; omega
             case rel => exact ⟨(wrap64 (x3_2 + 1)), (by first | rfl | (simp; done) | (simp [*]; done)), H', ⟨by have := HJ1.out; have := HK2.out; omega⟩, ⟨by refine bz_ ?_; exact BK212.out⟩, ⟨bw_q HB⟩⟩
           ·rw [if_neg c25] at H
            exact absurd H (by simp)
          ·rw [if_neg c24] at H
           exact absurd H (by simp)
         ·rw [if_neg c22] at H
          have c22b0 : decide (0 < x3_2) = false := decide_eq_false c22
          (first | rw [c22b0] | (simp only [i64_w, i32_w]; first | rw [c22b0]) | skip)
          clear c22; have H' := Aside0.mk H; clear H
          refine pu_ 11 53 (bL 25 4095) HT_.out rfl rfl ?_
          refine pu_ 12 54 (bL 25 8191) HT_.out rfl rfl ?_
          refine pu_ 13 55 (bL 25 16383) HT_.out rfl rfl ?_
          refine pu_ 14 56 (bL 25 32767) HT_.out rfl rfl ?_
          refine pu_ 15 57 (bL 25 65535) HT_.out rfl rfl ?_
          refine pu_ 16 58 (bL 25 131071) HT_.out rfl rfl ?_
          refine pu_ 17 59 (bL 25 262143) HT_.out rfl rfl ?_
          refine pu_ 18 60 (bL 25 524287) HT_.out rfl rfl ?_
          refine pu_ 19 61 (bL 25 1048575) HT_.out rfl rfl ?_
          refine pu_ 20 62 (bL 25 2097151) HT_.out rfl rfl ?_
          refine pu_ 21 63 (bL 25 4194303) HT_.out rfl rfl ?_
          refine pu_ 22 64 (bL 25 8388607) HT_.out rfl rfl ?_
          refine pq_ 23 65 (bL 25 16777215) HT_.out rfl rfl ?_
          refine pq_ 24 66 (bL 25 33554431) HT_.out rfl rfl ?_
          refine done_ (done_of HT_.out (by kernel_rfl)) ?_
          try go_wp2
          go_roundg k2
          case measure => have := HJ1.out; have := HK2.out; omega
          case rel => exact ⟨(wrap64 (x3_2 + 1)), (by first | rfl | (simp; done) | (simp [*]; done)), H', ⟨by have := HJ1.out; have := HK2.out; omega⟩, ⟨by refine bz_ ?_; exact BK212.out⟩, ⟨bw_q HB⟩⟩
        ·replace c21 := Bool.eq_false_iff.mpr c21; subst c21
         replace H : (some false) = some r := by rw [if_neg (show ¬ (false = true) by decide)] at H; exact H
         obtain rfl := Option.some.inj H
         refine pu_ 8 50 (bL 25 511) HT_.out rfl rfl ?_
         refine pu_ 9 51 (bL 25 1023) HT_.out rfl rfl ?_
         refine pu_ 10 52 (bL 25 2047) HT_.out rfl rfl ?_
         refine pu_ 11 53 (bL 25 4095) HT_.out rfl rfl ?_
         refine pu_ 12 54 (bL 25 8191) HT_.out rfl rfl ?_
         refine pu_ 13 55 (bL 25 16383) HT_.out rfl rfl ?_
         refine pu_ 14 56 (bL 25 32767) HT_.out rfl rfl ?_
         refine pu_ 15 57 (bL 25 65535) HT_.out rfl rfl ?_
         refine pu_ 16 58 (bL 25 131071) HT_.out rfl rfl ?_
         refine pu_ 17 59 (bL 25 262143) HT_.out rfl rfl ?_
         refine pu_ 18 60 (bL 25 524287) HT_.out rfl rfl ?_
         refine pu_ 19 61 (bL 25 1048575) HT_.out rfl rfl ?_
         refine pu_ 20 62 (bL 25 2097151) HT_.out rfl rfl ?_
         refine pu_ 21 63 (bL 25 4194303) HT_.out rfl rfl ?_
         refine pu_ 22 64 (bL 25 8388607) HT_.out rfl rfl ?_
         refine pu_ 23 65 (bL 25 16777215) HT_.out rfl rfl ?_
         refine pq_ 24 66 (bL 25 33554431) HT_.out rfl rfl ?_
         refine done_ (done_of HT_.out (by kernel_rfl)) ?_
         try go_wp2
         go_ret
         exact ⟨er_q, bw_q HB⟩
       ·rw [if_neg c19] at H
        exact absurd H (by simp)
      ·rw [if_neg c18] at H
       have c18b0 : decide (x3_2 < (l0_4.length : Int)) = false := decide_eq_false c18
       clear c18; have HC35 := Aside0.mk H; clear H
       have hcz36_0 : wr.cell? ⟨gb212, 0, none⟩ = some (.int .i64 a0_0) := (blk_cell BK212.out 0).trans rfl
       have hcz36_1 : wr.cell? ⟨gb212, 1, none⟩ = some (.int .i64 a0_1) := (blk_cell BK212.out 1).trans rfl
       have hcz36_2 : wr.cell? ⟨gb212, 2, none⟩ = some (.int .i64 a0_2) := (blk_cell BK212.out 2).trans rfl
       have hcz36_3 : wr.cell? ⟨gb212, 3, none⟩ = some (.int .i64 a0_3) := (blk_cell BK212.out 3).trans rfl
       have hcz36_4 : wr.cell? ⟨gb212, 4, none⟩ = some (.slice A0_4 l0_4.length c0_4) := (blk_cell BK212.out 4).trans rfl
       have hcz36_5 : wr.cell? ⟨gb212, 5, none⟩ = some (.slice A0_5 l0_5.length c0_5) := (blk_cell BK212.out 5).trans rfl
       have hfz36_0 := blk_frozen BK212.out 0; have hfz36_1 := blk_frozen BK212.out 1; have hfz36_2 := blk_frozen BK212.out 2; have hfz36_3 := blk_frozen BK212.out 3; have hfz36_4 := blk_frozen BK212.out 4; have hfz36_5 := blk_frozen BK212.out 5
       go_upto_region 8 with (fail)
       go_cut [92] (fun v92 wc => ∃ (kq : Nat) (x92_34 : Bool), v92 = .bool x92_34 ∧ Aside0 (spec_PacketOk.j2 kq x92_34 a0_0 a0_1 a0_2 a0_3 l0_4 l0_5 = some r) ∧ Aside0 (kq ≤ k2) ∧ Aside0 (wc.heap[gb212]? = some (.cells #[.int .i64 a0_0, .int .i64 a0_1, .int .i64 a0_2, .int .i64 a0_3, (.slice A0_4 l0_4.length c0_4), (.slice A0_5 l0_5.length c0_5)] 39 (0, 0))) ∧ Aside0 (Below w.heap.size w wc))
       case first =>
        have H := HC35.out; clear HC35
        by_cases c37 : a0_0 = 1
        ·rw [if_pos c37] at H
         have c37b0 : (a0_0 == 1) = true := beq_iff_eq.mpr c37
         have c37b1 : (a0_0 != 1) = false := bne_eq_false_iff_eq.mpr c37
         clear c37
         (first | rw [c37b0] | rw [c37b1] | (simp only [i64_w, i32_w]; first | rw [c37b0] | rw [c37b1]) | skip)
         by_cases c38 : (l0_5.length : Int) > 0
         ·rw [if_pos c38] at H
          have c38b0 : decide (0 < (l0_5.length : Int)) = true := decide_eq_true c38
          have c38b1 : decide (0 < l0_5.length) = true := decide_eq_true (by omega)
          clear c38; have H' := Aside0.mk H; clear H
          have hcz39_0 : wr.cell? ⟨gb212, 0, none⟩ = some (.int .i64 a0_0) := (blk_cell BK212.out 0).trans rfl
          have hcz39_1 : wr.cell? ⟨gb212, 1, none⟩ = some (.int .i64 a0_1) := (blk_cell BK212.out 1).trans rfl
          have hcz39_2 : wr.cell? ⟨gb212, 2, none⟩ = some (.int .i64 a0_2) := (blk_cell BK212.out 2).trans rfl
          have hcz39_3 : wr.cell? ⟨gb212, 3, none⟩ = some (.int .i64 a0_3) := (blk_cell BK212.out 3).trans rfl
          have hcz39_4 : wr.cell? ⟨gb212, 4, none⟩ = some (.slice A0_4 l0_4.length c0_4) := (blk_cell BK212.out 4).trans rfl
          have hcz39_5 : wr.cell? ⟨gb212, 5, none⟩ = some (.slice A0_5 l0_5.length c0_5) := (blk_cell BK212.out 5).trans rfl
          have hfz39_0 := blk_frozen BK212.out 0; have hfz39_1 := blk_frozen BK212.out 1; have hfz39_2 := blk_frozen BK212.out 2; have hfz39_3 := blk_frozen BK212.out 3; have hfz39_4 := blk_frozen BK212.out 4; have hfz39_5 := blk_frozen BK212.out 5
          go_wp2
          go_meet
          case rel => exact ⟨_, (true), (by first | rfl | (simp; done) | (simp [*]; done)), H', ⟨by have := HJ1.out; have := HK2.out; first | omega | exact Nat.le_refl _⟩, ⟨by refine bz_ ?_; exact BK212.out⟩, ⟨bw_q HB⟩⟩
         ·rw [if_neg c38] at H
          have c38b0 : decide (0 < (l0_5.length : Int)) = false := decide_eq_false c38
          have c38b1 : decide (0 < l0_5.length) = false := decide_eq_false (by omega)
          clear c38; replace H := Option.bind_eq_some_iff.mp H; obtain ⟨t220, A400, H⟩ := H
          replace H : (spec_PacketOk.j2 k2 (!t220) a0_0 a0_1 a0_2 a0_3 l0_4 l0_5) = some r := H
          have A40 := Aside0.mk A400; clear A400; have H' := Aside0.mk H; clear H
          have hcz41_0 : wr.cell? ⟨gb212, 0, none⟩ = some (.int .i64 a0_0) := (blk_cell BK212.out 0).trans rfl
          have hcz41_1 : wr.cell? ⟨gb212, 1, none⟩ = some (.int .i64 a0_1) := (blk_cell BK212.out 1).trans rfl
          have hcz41_2 : wr.cell? ⟨gb212, 2, none⟩ = some (.int .i64 a0_2) := (blk_cell BK212.out 2).trans rfl
          have hcz41_3 : wr.cell? ⟨gb212, 3, none⟩ = some (.int .i64 a0_3) := (blk_cell BK212.out 3).trans rfl
          have hcz41_4 : wr.cell? ⟨gb212, 4, none⟩ = some (.slice A0_4 l0_4.length c0_4) := (blk_cell BK212.out 4).trans rfl
          have hcz41_5 : wr.cell? ⟨gb212, 5, none⟩ = some (.slice A0_5 l0_5.length c0_5) := (blk_cell BK212.out 5).trans rfl
          have hfz41_0 := blk_frozen BK212.out 0; have hfz41_1 := blk_frozen BK212.out 1; have hfz41_2 := blk_frozen BK212.out 2; have hfz41_3 := blk_frozen BK212.out 3; have hfz41_4 := blk_frozen BK212.out 4; have hfz41_5 := blk_frozen BK212.out 5
          go_wp2_with (first | (go_at_call 72; (with_reducible refine (spec_StoreOk.calls k2 _ _ l0_5 t220 _ ?side1 ?side2 A40.out).mono ?_); (case side1 => exact cs_q (Kd.C_below HR0_5.out HB.out)); (case side2 => exact HC0_5.out); rintro e w42 ⟨rfl, hb⟩; replace BK212 := Aside0.mk (blk_below (g := gb212) (bk_q BK212) hb); replace HB := Aside0.mk (below_step (bw_q HB) hb); (try clear hb); (try clear hb2); (try clear hk); (try clear hi)))
          go_meet
          case rel => exact ⟨_, (!t220), (by first | rfl | (simp; done) | (simp [*]; done)), H', ⟨by have := HJ1.out; have := HK2.out; first | omega | exact Nat.le_refl _⟩, ⟨by refine bz_ ?_; exact BK212.out⟩, ⟨bw_q HB⟩⟩
        ·rw [if_neg c37] at H
         have c37b0 : (a0_0 == 1) = false := beq_eq_false_iff_ne.mpr c37
         have c37b1 : (a0_0 != 1) = true := bne_iff_ne.mpr c37
         (first | rw [c37b0] | rw [c37b1] | (simp only [i64_w, i32_w]; first | rw [c37b0] | rw [c37b1]) | skip)
         by_cases c43 : (l0_4.length : Int) > 0
         ·rw [if_pos c43] at H
          have c43b0 : decide (0 < (l0_4.length : Int)) = true := decide_eq_true c43
          have c43b1 : decide (0 < l0_4.length) = true := decide_eq_true (by omega)
          clear c43; have H' := Aside0.mk H; clear H
          have hcz44_0 : wr.cell? ⟨gb212, 0, none⟩ = some (.int .i64 a0_0) := (blk_cell BK212.out 0).trans rfl
          have hcz44_1 : wr.cell? ⟨gb212, 1, none⟩ = some (.int .i64 a0_1) := (blk_cell BK212.out 1).trans rfl
          have hcz44_2 : wr.cell? ⟨gb212, 2, none⟩ = some (.int .i64 a0_2) := (blk_cell BK212.out 2).trans rfl
          have hcz44_3 : wr.cell? ⟨gb212, 3, none⟩ = some (.int .i64 a0_3) := (blk_cell BK212.out 3).trans rfl
          have hcz44_4 : wr.cell? ⟨gb212, 4, none⟩ = some (.slice A0_4 l0_4.length c0_4) := (blk_cell BK212.out 4).trans rfl
          have hcz44_5 : wr.cell? ⟨gb212, 5, none⟩ = some (.slice A0_5 l0_5.length c0_5) := (blk_cell BK212.out 5).trans rfl
          have hfz44_0 := blk_frozen BK212.out 0; have hfz44_1 := blk_frozen BK212.out 1; have hfz44_2 := blk_frozen BK212.out 2; have hfz44_3 := blk_frozen BK212.out 3; have hfz44_4 := blk_frozen BK212.out 4; have hfz44_5 := blk_frozen BK212.out 5
          go_wp2
          go_meet
          case rel => exact ⟨_, (true), (by first | rfl | (simp; done) | (simp [*]; done)), H', ⟨by have := HJ1.out; have := HK2.out; first | omega | exact Nat.le_refl _⟩, ⟨by refine bz_ ?_; exact BK212.out⟩, ⟨bw_q HB⟩⟩
         ·rw [if_neg c43] at H
          have c43b0 : decide (0 < (l0_4.length : Int)) = false := decide_eq_false c43
          have c43b1 : decide (0 < l0_4.length) = false := decide_eq_false (by omega)
          clear c43; replace H := Option.bind_eq_some_iff.mp H; obtain ⟨t221, A450, H⟩ := H
          replace H : (spec_PacketOk.j2 k2 (!t221) a0_0 a0_1 a0_2 a0_3 l0_4 l0_5) = some r := H
          have A45 := Aside0.mk A450; clear A450; have H' := Aside0.mk H; clear H
          have hcz46_0 : wr.cell? ⟨gb212, 0, none⟩ = some (.int .i64 a0_0) := (blk_cell BK212.out 0).trans rfl
          have hcz46_1 : wr.cell? ⟨gb212, 1, none⟩ = some (.int .i64 a0_1) := (blk_cell BK212.out 1).trans rfl
          have hcz46_2 : wr.cell? ⟨gb212, 2, none⟩ = some (.int .i64 a0_2) := (blk_cell BK212.out 2).trans rfl
          have hcz46_3 : wr.cell? ⟨gb212, 3, none⟩ = some (.int .i64 a0_3) := (blk_cell BK212.out 3).trans rfl
          have hcz46_4 : wr.cell? ⟨gb212, 4, none⟩ = some (.slice A0_4 l0_4.length c0_4) := (blk_cell BK212.out 4).trans rfl
          have hcz46_5 : wr.cell? ⟨gb212, 5, none⟩ = some (.slice A0_5 l0_5.length c0_5) := (blk_cell BK212.out 5).trans rfl
          have hfz46_0 := blk_frozen BK212.out 0; have hfz46_1 := blk_frozen BK212.out 1; have hfz46_2 := blk_frozen BK212.out 2; have hfz46_3 := blk_frozen BK212.out 3; have hfz46_4 := blk_frozen BK212.out 4; have hfz46_5 := blk_frozen BK212.out 5
          go_wp2_with (first | (go_at_call 72; (with_reducible refine (spec_StoreOk.calls k2 _ _ l0_5 t221 _ ?side1 ?side2 A45.out).mono ?_); (case side1 => exact cs_q (Kd.C_below HR0_5.out HB.out)); (case side2 => exact HC0_5.out); rintro e w47 ⟨rfl, hb⟩; replace BK212 := Aside0.mk (blk_below (g := gb212) (bk_q BK212) hb); replace HB := Aside0.mk (below_step (bw_q HB) hb); (try clear hb); (try clear hb2); (try clear hk); (try clear hi)))
          go_meet
          case rel => exact ⟨_, (!t221), (by first | rfl | (simp; done) | (simp [*]; done)), H', ⟨by have := HJ1.out; have := HK2.out; first | omega | exact Nat.le_refl _⟩, ⟨by refine bz_ ?_; exact BK212.out⟩, ⟨bw_q HB⟩⟩
       case rest =>
        clear HC35; (try clear c1); (try clear c2); (try clear p2); (try clear q2); (try clear hx2); (try clear c3); (try clear c4); (try clear c6); (try clear p6); (try clear c18); (try clear c18b0); (try clear c19); (try clear c21); (try clear p21); (try clear q21); (try clear hx21); (try clear c22); (try clear c22b0); (try clear c24); (try clear c25); (try clear c37); (try clear c37b0); (try clear c37b1); (try clear c38); (try clear c38b0); (try clear c38b1); (try clear c43); (try clear c43b0); (try clear c43b1); (try clear hcz31_0); (try clear hcz31_1); (try clear hcz31_2); (try clear hcz31_3); (try clear hcz31_4); (try clear hcz31_5); (try clear hcz33_0); (try clear hcz33_1); (try clear hcz33_2); (try clear hcz33_3); (try clear hcz33_4); (try clear hcz33_5); (try clear hcz36_0); (try clear hcz36_1); (try clear hcz36_2); (try clear hcz36_3); (try clear hcz36_4); (try clear hcz36_5); (try clear hcz39_0); (try clear hcz39_1); (try clear hcz39_2); (try clear hcz39_3); (try clear hcz39_4); (try clear hcz39_5); (try clear hcz41_0); (try clear hcz41_1); (try clear hcz41_2); (try clear hcz41_3); (try clear hcz41_4); (try clear hcz41_5); (try clear hcz44_0); (try clear hcz44_1); (try clear hcz44_2); (try clear hcz44_3); (try clear hcz44_4); (try clear hcz44_5); (try clear hcz46_0); (try clear hcz46_1); (try clear hcz46_2); (try clear hcz46_3); (try clear hcz46_4); (try clear hcz46_5); (try clear hfz31_0); (try clear hfz31_1); (try clear hfz31_2); (try clear hfz31_3); (try clear hfz31_4); (try clear hfz31_5); (try clear hfz33_0); (try clear hfz33_1); (try clear hfz33_2); (try clear hfz33_3); (try clear hfz33_4); (try clear hfz33_5); (try clear hfz36_0); (try clear hfz36_1); (try clear hfz36_2); (try clear hfz36_3); (try clear hfz36_4); (try clear hfz36_5); (try clear hfz39_0); (try clear hfz39_1); (try clear hfz39_2); (try clear hfz39_3); (try clear hfz39_4); (try clear hfz39_5); (try clear hfz41_0); (try clear hfz41_1); (try clear hfz41_2); (try clear hfz41_3); (try clear hfz41_4); (try clear hfz41_5); (try clear hfz44_0); (try clear hfz44_1); (try clear hfz44_2); (try clear hfz44_3); (try clear hfz44_4); (try clear hfz44_5); (try clear hfz46_0); (try clear hfz46_1); (try clear hfz46_2); (try clear hfz46_3); (try clear hfz46_4); (try clear hfz46_5); (try clear hx217_0); (try clear p217); (try clear q217); obtain ⟨kq, x92_34, rfl, HA, HJ34, BK212, HB⟩ := hcut
        cases kq with
        | zero => exact absurd HA.out (by simp [spec_PacketOk.j2])
        | succ kj34 =>
         have H := HA.out; clear HA
         simp only [spec_PacketOk.j2] at H
         by_cases c48 : x92_34 = true
         ·subst c48
          replace H : (some false) = some r := by rw [if_pos rfl] at H; exact H
          obtain rfl := Option.some.inj H
          go_wp2
          go_ret
          exact ⟨er_q, bw_q HB⟩
         ·replace c48 := Bool.eq_false_iff.mpr c48; subst c48
          replace H : (spec_PacketOk.l1 kj34 0 a0_0 a0_1 a0_2 a0_3 l0_4 l0_5) = some r := by rw [if_neg (show ¬ (false = true) by decide)] at H; exact H
          have H' := Aside0.mk H; clear H
          go_wp2
          go_loopg [4] kj34 (fun kq v4 w' => ∃ (x4_4 : Int), v4 = .int .i64 x4_4 ∧ Aside0 (spec_PacketOk.l1 kq x4_4 a0_0 a0_1 a0_2 a0_3 l0_4 l0_5 = some r) ∧ Aside0 (kq ≤ kj34) ∧ Aside0 (w'.heap[gb212]? = some (.cells #[.int .i64 a0_0, .int .i64 a0_1, .int .i64 a0_2, .int .i64 a0_3, (.slice A0_4 l0_4.length c0_4), (.slice A0_5 l0_5.length c0_5)] 39 (0, 0))) ∧ Aside0 (Below w.heap.size w w'))
          case atStart => exact ⟨(0), (by first | rfl | (simp; done) | (simp [*]; done)), H', ⟨Nat.le_refl _⟩, ⟨by refine bz_ ?_; exact BK212.out⟩, ⟨bw_q HB⟩⟩
          case round =>
           clear H'; (try clear c1); (try clear c2); (try clear p2); (try clear q2); (try clear hx2); (try clear c3); (try clear c4); (try clear c6); (try clear p6); (try clear c18); (try clear c18b0); (try clear c19); (try clear c21); (try clear p21); (try clear q21); (try clear hx21); (try clear c22); (try clear c22b0); (try clear c24); (try clear c25); (try clear c37); (try clear c37b0); (try clear c37b1); (try clear c38); (try clear c38b0); (try clear c38b1); (try clear c43); (try clear c43b0); (try clear c43b1); (try clear c48); (try clear hcz31_0); (try clear hcz31_1); (try clear hcz31_2); (try clear hcz31_3); (try clear hcz31_4); (try clear hcz31_5); (try clear hcz33_0); (try clear hcz33_1); (try clear hcz33_2); (try clear hcz33_3); (try clear hcz33_4); (try clear hcz33_5); (try clear hcz36_0); (try clear hcz36_1); (try clear hcz36_2); (try clear hcz36_3); (try clear hcz36_4); (try clear hcz36_5); (try clear hcz39_0); (try clear hcz39_1); (try clear hcz39_2); (try clear hcz39_3); (try clear hcz39_4); (try clear hcz39_5); (try clear hcz41_0); (try clear hcz41_1); (try clear hcz41_2); (try clear hcz41_3); (try clear hcz41_4); (try clear hcz41_5); (try clear hcz44_0); (try clear hcz44_1); (try clear hcz44_2); (try clear hcz44_3); (try clear hcz44_4); (try clear hcz44_5); (try clear hcz46_0); (try clear hcz46_1); (try clear hcz46_2); (try clear hcz46_3); (try clear hcz46_4); (try clear hcz46_5); (try clear hfz31_0); (try clear hfz31_1); (try clear hfz31_2); (try clear hfz31_3); (try clear hfz31_4); (try clear hfz31_5); (try clear hfz33_0); (try clear hfz33_1); (try clear hfz33_2); (try clear hfz33_3); (try clear hfz33_4); (try clear hfz33_5); (try clear hfz36_0); (try clear hfz36_1); (try clear hfz36_2); (try clear hfz36_3); (try clear hfz36_4); (try clear hfz36_5); (try clear hfz39_0); (try clear hfz39_1); (try clear hfz39_2); (try clear hfz39_3); (try clear hfz39_4); (try clear hfz39_5); (try clear hfz41_0); (try clear hfz41_1); (try clear hfz41_2); (try clear hfz41_3); (try clear hfz41_4); (try clear hfz41_5); (try clear hfz44_0); (try clear hfz44_1); (try clear hfz44_2); (try clear hfz44_3); (try clear hfz44_4); (try clear hfz44_5); (try clear hfz46_0); (try clear hfz46_1); (try clear hfz46_2); (try clear hfz46_3); (try clear hfz46_4); (try clear hfz46_5); (try clear hx217_0); (try clear p2); (try clear p21); (try clear p217); (try clear p6); (try clear q2); (try clear q21); (try clear q217); obtain ⟨x4_4, rfl, HA, HK4, BK212, HB⟩ := hrel
           cases gk with
           | zero => exact absurd HA.out (by simp [spec_PacketOk.l1])
           | succ k4 =>
            have H := HA.out; clear HA
            simp only [spec_PacketOk.l1] at H
            by_cases c49 : x4_4 < (l0_5.length : Int)
            ·rw [if_pos c49] at H
             have c49b0 : decide (x4_4 < (l0_5.length : Int)) = true := decide_eq_true c49
             clear c49
             by_cases c50 : 0 ≤ x4_4
             ·rw [if_pos c50] at H
              have c50b0 : decide (0 ≤ x4_4) = true := decide_eq_true c50
              clear c50; have HZ14 := Aside0.mk H; clear H
              have hcz57_0 : wr.cell? ⟨gb212, 0, none⟩ = some (.int .i64 a0_0) := (blk_cell BK212.out 0).trans rfl
              have hcz57_1 : wr.cell? ⟨gb212, 1, none⟩ = some (.int .i64 a0_1) := (blk_cell BK212.out 1).trans rfl
              have hcz57_2 : wr.cell? ⟨gb212, 2, none⟩ = some (.int .i64 a0_2) := (blk_cell BK212.out 2).trans rfl
              have hcz57_3 : wr.cell? ⟨gb212, 3, none⟩ = some (.int .i64 a0_3) := (blk_cell BK212.out 3).trans rfl
              have hcz57_4 : wr.cell? ⟨gb212, 4, none⟩ = some (.slice A0_4 l0_4.length c0_4) := (blk_cell BK212.out 4).trans rfl
              have hcz57_5 : wr.cell? ⟨gb212, 5, none⟩ = some (.slice A0_5 l0_5.length c0_5) := (blk_cell BK212.out 5).trans rfl
              have hfz57_0 := blk_frozen BK212.out 0; have hfz57_1 := blk_frozen BK212.out 1; have hfz57_2 := blk_frozen BK212.out 2; have hfz57_3 := blk_frozen BK212.out 3; have hfz57_4 := blk_frozen BK212.out 4; have hfz57_5 := blk_frozen BK212.out 5
              have p222 : 0 ≤ (x4_4 : Int) := of_decide_eq_true as_q
              have q222 : x4_4 < (l0_5.length : Int) := of_decide_eq_true as_q
              obtain ⟨ad222, A222_5, c222_5, e222, hx222_0, hx222_1, hx222_2, hx222_3, hx222_4, hx222_5, hx222_6, hx222_7, hl222_5, hi222_5⟩ := at_T24 HR0_5.out x4_4 p222 q222
              cases e222
              replace hx222_0 := (HB.out.cell (World.block_lt_of_cell? w _ hx222_0)).trans hx222_0
              replace hx222_1 := (HB.out.cell (World.block_lt_of_cell? w _ hx222_1)).trans hx222_1
              replace hx222_2 := (HB.out.cell (World.block_lt_of_cell? w _ hx222_2)).trans hx222_2
              replace hx222_3 := (HB.out.cell (World.block_lt_of_cell? w _ hx222_3)).trans hx222_3
              replace hx222_4 := (HB.out.cell (World.block_lt_of_cell? w _ hx222_4)).trans hx222_4
              replace hx222_5 := (HB.out.cell (World.block_lt_of_cell? w _ hx222_5)).trans hx222_5
              replace hx222_6 := (HB.out.cell (World.block_lt_of_cell? w _ hx222_6)).trans hx222_6
              replace hx222_7 := (HB.out.cell (World.block_lt_of_cell? w _ hx222_7)).trans hx222_7
              have HR222_5 := Aside0.mk hi222_5; have HC222_5 := Aside0.mk hl222_5; clear hi222_5 hl222_5; replace p222 := eq_true p222; replace q222 := eq_true q222
              try go_wp2_with (first | ((with_reducible refine gate_dst (N := 5) rfl ?_); (try (refine gate_guard (by rfl) ?_; dsimp only)); refine box_q 5 #[.int .i64 0, .int .i64 0, .int .i64 0, .int .i64 0, .int .i64 0, .slice none 0 0, .int .i64 0, .bool false] 24 ?_; intro gb223 hg w58 hbox hb; have BK223 := Aside0.mk (hbox); have GW223 := Aside0.mk ((by rw [hg]; exact (below_size (bw_q HB)) : w.heap.size ≤ gb223)); have GE223 := Aside0.mk ((by rw [hg]; exact (below_size (bw_q HB)) : w.heap.size ≤ gb223)); replace HB := Aside0.mk (below_step (bw_q HB) hb); have NB212_223 := Aside0.mk ((by rw [hg]; exact Nat.ne_of_lt (blk_lt (g := gb212) (o := .cells #[.int .i64 a0_0, .int .i64 a0_1, .int .i64 a0_2, .int .i64 a0_3, .slice A0_4 l0_4.length c0_4, .slice (some ad222) l0_5.length c0_5] 39 (0, 0)) (bk_q BK212)) : gb212 ≠ gb223)); have NB223_212 := Aside0.mk ((by rw [hg]; exact Nat.ne_of_gt (blk_lt (g := gb212) (o := .cells #[.int .i64 a0_0, .int .i64 a0_1, .int .i64 a0_2, .int .i64 a0_3, .slice A0_4 l0_4.length c0_4, .slice (some ad222) l0_5.length c0_5] 39 (0, 0)) (bk_q BK212)) : gb223 ≠ gb212)); replace BK212 := Aside0.mk (blk_below (g := gb212) (bk_q BK212) hb); clear hb hbox hg; have hnb59 := NB223_212.out; have hnc59 := NB212_223.out; have hcz60_0 : w58.cell? ⟨gb223, 0, none⟩ = some (.int .i64 0) := (blk_cell BK223.out 0).trans rfl; have hcz60_1 : w58.cell? ⟨gb223, 1, none⟩ = some (.int .i64 0) := (blk_cell BK223.out 1).trans rfl; have hcz60_2 : w58.cell? ⟨gb223, 2, none⟩ = some (.int .i64 0) := (blk_cell BK223.out 2).trans rfl; have hcz60_3 : w58.cell? ⟨gb223, 3, none⟩ = some (.int .i64 0) := (blk_cell BK223.out 3).trans rfl; have hcz60_4 : w58.cell? ⟨gb223, 4, none⟩ = some (.int .i64 0) := (blk_cell BK223.out 4).trans rfl; have hcz60_5 : w58.cell? ⟨gb223, 5, none⟩ = some (.slice none 0 0) := (blk_cell BK223.out 5).trans rfl; have hcz60_6 : w58.cell? ⟨gb223, 6, none⟩ = some (.int .i64 0) := (blk_cell BK223.out 6).trans rfl; have hcz60_7 : w58.cell? ⟨gb223, 7, none⟩ = some (.bool false) := (blk_cell BK223.out 7).trans rfl; have hfz60_0 := blk_frozen BK223.out 0; have hfz60_1 := blk_frozen BK223.out 1; have hfz60_2 := blk_frozen BK223.out 2; have hfz60_3 := blk_frozen BK223.out 3; have hfz60_4 := blk_frozen BK223.out 4; have hfz60_5 := blk_frozen BK223.out 5; have hfz60_6 := blk_frozen BK223.out 6; have hfz60_7 := blk_frozen BK223.out 7))
              have n0_ : Aside0 (((((((((w58.setCell ⟨gb223, 0, none⟩ (.int .i64 ((rd_T24 l0_5 x4_4).f0))).setCell ⟨gb223, 1, none⟩ (.int .i64 ((rd_T24 l0_5 x4_4).f1))).setCell ⟨gb223, 2, none⟩ (.int .i64 ((rd_T24 l0_5 x4_4).f2))).setCell ⟨gb223, 3, none⟩ (.int .i64 ((rd_T24 l0_5 x4_4).f3))).setCell ⟨gb223, 4, none⟩ (.int .i64 ((rd_T24 l0_5 x4_4).f4))).setCell ⟨gb223, 5, none⟩ (.slice A222_5 ((rd_T24 l0_5 x4_4).f5).length c222_5)).setCell ⟨gb223, 6, none⟩ (.int .i64 ((rd_T24 l0_5 x4_4).f6))).setCell ⟨gb223, 7, none⟩ (.bool ((rd_T24 l0_5 x4_4).f7))).heap[gb212]? = some (.cells #[.int .i64 a0_0, .int .i64 a0_1, .int .i64 a0_2, .int .i64 a0_3, .slice A0_4 l0_4.length c0_4, .slice (some ad222) l0_5.length c0_5] 39 (0, 0))) := ⟨by refine bz_ ?_; refine blk_far ?_ NB212_223.out _; refine bz_ ?_; refine blk_far ?_ NB212_223.out _; refine bz_ ?_; refine blk_far ?_ NB212_223.out _; refine bz_ ?_; refine blk_far ?_ NB212_223.out _; refine bz_ ?_; refine blk_far ?_ NB212_223.out _; refine bz_ ?_; refine blk_far ?_ NB212_223.out _; refine bz_ ?_; refine blk_far ?_ NB212_223.out _; refine bz_ ?_; refine blk_far ?_ NB212_223.out _; refine bz_ ?_; exact BK212.out⟩
              have n1_ : Aside0 (((((((((w58.setCell ⟨gb223, 0, none⟩ (.int .i64 ((rd_T24 l0_5 x4_4).f0))).setCell ⟨gb223, 1, none⟩ (.int .i64 ((rd_T24 l0_5 x4_4).f1))).setCell ⟨gb223, 2, none⟩ (.int .i64 ((rd_T24 l0_5 x4_4).f2))).setCell ⟨gb223, 3, none⟩ (.int .i64 ((rd_T24 l0_5 x4_4).f3))).setCell ⟨gb223, 4, none⟩ (.int .i64 ((rd_T24 l0_5 x4_4).f4))).setCell ⟨gb223, 5, none⟩ (.slice A222_5 ((rd_T24 l0_5 x4_4).f5).length c222_5)).setCell ⟨gb223, 6, none⟩ (.int .i64 ((rd_T24 l0_5 x4_4).f6))).setCell ⟨gb223, 7, none⟩ (.bool ((rd_T24 l0_5 x4_4).f7))).heap[gb223]? = some (.cells #[.int .i64 ((rd_T24 l0_5 x4_4).f0), .int .i64 ((rd_T24 l0_5 x4_4).f1), .int .i64 ((rd_T24 l0_5 x4_4).f2), .int .i64 ((rd_T24 l0_5 x4_4).f3), .int .i64 ((rd_T24 l0_5 x4_4).f4), .slice A222_5 ((rd_T24 l0_5 x4_4).f5).length c222_5, .int .i64 ((rd_T24 l0_5 x4_4).f6), .bool ((rd_T24 l0_5 x4_4).f7)] 24 (0, 0))) := ⟨by refine bz_ ?_; refine blk_put (cs := #[.int .i64 ((rd_T24 l0_5 x4_4).f0), .int .i64 ((rd_T24 l0_5 x4_4).f1), .int .i64 ((rd_T24 l0_5 x4_4).f2), .int .i64 ((rd_T24 l0_5 x4_4).f3), .int .i64 ((rd_T24 l0_5 x4_4).f4), .slice A222_5 ((rd_T24 l0_5 x4_4).f5).length c222_5, .int .i64 ((rd_T24 l0_5 x4_4).f6), .bool false]) ?_ 7 _ rfl; refine bz_ ?_; refine blk_put (cs := #[.int .i64 ((rd_T24 l0_5 x4_4).f0), .int .i64 ((rd_T24 l0_5 x4_4).f1), .int .i64 ((rd_T24 l0_5 x4_4).f2), .int .i64 ((rd_T24 l0_5 x4_4).f3), .int .i64 ((rd_T24 l0_5 x4_4).f4), .slice A222_5 ((rd_T24 l0_5 x4_4).f5).length c222_5, .int .i64 0, .bool false]) ?_ 6 _ rfl; refine bz_ ?_; refine blk_put (cs := #[.int .i64 ((rd_T24 l0_5 x4_4).f0), .int .i64 ((rd_T24 l0_5 x4_4).f1), .int .i64 ((rd_T24 l0_5 x4_4).f2), .int .i64 ((rd_T24 l0_5 x4_4).f3), .int .i64 ((rd_T24 l0_5 x4_4).f4), .slice none 0 0, .int .i64 0, .bool false]) ?_ 5 _ rfl; refine bz_ ?_; refine blk_put (cs := #[.int .i64 ((rd_T24 l0_5 x4_4).f0), .int .i64 ((rd_T24 l0_5 x4_4).f1), .int .i64 ((rd_T24 l0_5 x4_4).f2), .int .i64 ((rd_T24 l0_5 x4_4).f3), .int .i64 0, .slice none 0 0, .int .i64 0, .bool false]) ?_ 4 _ rfl; refine bz_ ?_; refine blk_put (cs := #[.int .i64 ((rd_T24 l0_5 x4_4).f0), .int .i64 ((rd_T24 l0_5 x4_4).f1), .int .i64 ((rd_T24 l0_5 x4_4).f2), .int .i64 0, .int .i64 0, .slice none 0 0, .int .i64 0, .bool false]) ?_ 3 _ rfl; refine bz_ ?_; refine blk_put (cs := #[.int .i64 ((rd_T24 l0_5 x4_4).f0), .int .i64 ((rd_T24 l0_5 x4_4).f1), .int .i64 0, .int .i64 0, .int .i64 0, .slice none 0 0, .int .i64 0, .bool false]) ?_ 2 _ rfl; refine bz_ ?_; refine blk_put (cs := #[.int .i64 ((rd_T24 l0_5 x4_4).f0), .int .i64 0, .int .i64 0, .int .i64 0, .int .i64 0, .slice none 0 0, .int .i64 0, .bool false]) ?_ 1 _ rfl; refine bz_ ?_; refine blk_put (cs := #[.int .i64 0, .int .i64 0, .int .i64 0, .int .i64 0, .int .i64 0, .slice none 0 0, .int .i64 0, .bool false]) ?_ 0 _ rfl; refine bz_ ?_; exact BK223.out⟩
              have n2_ : Aside0 (Below w.heap.size w ((((((((w58.setCell ⟨gb223, 0, none⟩ (.int .i64 ((rd_T24 l0_5 x4_4).f0))).setCell ⟨gb223, 1, none⟩ (.int .i64 ((rd_T24 l0_5 x4_4).f1))).setCell ⟨gb223, 2, none⟩ (.int .i64 ((rd_T24 l0_5 x4_4).f2))).setCell ⟨gb223, 3, none⟩ (.int .i64 ((rd_T24 l0_5 x4_4).f3))).setCell ⟨gb223, 4, none⟩ (.int .i64 ((rd_T24 l0_5 x4_4).f4))).setCell ⟨gb223, 5, none⟩ (.slice A222_5 ((rd_T24 l0_5 x4_4).f5).length c222_5)).setCell ⟨gb223, 6, none⟩ (.int .i64 ((rd_T24 l0_5 x4_4).f6))).setCell ⟨gb223, 7, none⟩ (.bool ((rd_T24 l0_5 x4_4).f7)))) := ⟨bw_q HB⟩
              (try clear BK212); (try clear BK223); (try clear HB)
              generalize ((((((((w58.setCell ⟨gb223, 0, none⟩ (.int .i64 ((rd_T24 l0_5 x4_4).f0))).setCell ⟨gb223, 1, none⟩ (.int .i64 ((rd_T24 l0_5 x4_4).f1))).setCell ⟨gb223, 2, none⟩ (.int .i64 ((rd_T24 l0_5 x4_4).f2))).setCell ⟨gb223, 3, none⟩ (.int .i64 ((rd_T24 l0_5 x4_4).f3))).setCell ⟨gb223, 4, none⟩ (.int .i64 ((rd_T24 l0_5 x4_4).f4))).setCell ⟨gb223, 5, none⟩ (.slice A222_5 ((rd_T24 l0_5 x4_4).f5).length c222_5)).setCell ⟨gb223, 6, none⟩ (.int .i64 ((rd_T24 l0_5 x4_4).f6))).setCell ⟨gb223, 7, none⟩ (.bool ((rd_T24 l0_5 x4_4).f7))) = w61 at n0_ n1_ n2_ ⊢
              have BK212 := n0_; have BK223 := n1_; have HB := n2_; clear n0_ n1_ n2_; replace BK212 := Aside0.mk (blk_drew BK212.out); replace BK223 := Aside0.mk (blk_drew BK223.out); replace HB := Aside0.mk (below_drew1 HB.out)
              refine start_ (n := 23) (S := fun w' => w'.cell? ⟨gb223, 0, none⟩ = some (.int .i64 ((rd_T24 l0_5 x4_4).f0)) ∧ w'.cell? ⟨gb223, 1, none⟩ = some (.int .i64 ((rd_T24 l0_5 x4_4).f1)) ∧ w'.cell? ⟨gb223, 2, none⟩ = some (.int .i64 ((rd_T24 l0_5 x4_4).f2)) ∧ w'.cell? ⟨gb223, 3, none⟩ = some (.int .i64 ((rd_T24 l0_5 x4_4).f3)) ∧ w'.cell? ⟨gb223, 4, none⟩ = some (.int .i64 ((rd_T24 l0_5 x4_4).f4)) ∧ w'.cell? ⟨gb223, 5, none⟩ = some (.slice A222_5 ((rd_T24 l0_5 x4_4).f5).length c222_5) ∧ w'.cell? ⟨gb223, 6, none⟩ = some (.int .i64 ((rd_T24 l0_5 x4_4).f6)) ∧ w'.cell? ⟨gb223, 7, none⟩ = some (.bool ((rd_T24 l0_5 x4_4).f7)) ∧ w'.cell? ⟨gb212, 0, none⟩ = some (.int .i64 a0_0) ∧ w'.cell? ⟨gb212, 1, none⟩ = some (.int .i64 a0_1) ∧ w'.cell? ⟨gb212, 2, none⟩ = some (.int .i64 a0_2) ∧ w'.cell? ⟨gb212, 3, none⟩ = some (.int .i64 a0_3) ∧ w'.cell? ⟨gb212, 4, none⟩ = some (.slice A0_4 l0_4.length c0_4) ∧ w'.cell? ⟨gb212, 5, none⟩ = some (.slice (some ad222) l0_5.length c0_5)) (ds := []) (bL 23 0) (by kernel_rfl) rfl rfl ⟨(blk_cell BK223.out 0).trans rfl, (blk_cell BK223.out 1).trans rfl, (blk_cell BK223.out 2).trans rfl, (blk_cell BK223.out 3).trans rfl, (blk_cell BK223.out 4).trans rfl, (blk_cell BK223.out 5).trans rfl, (blk_cell BK223.out 6).trans rfl, (blk_cell BK223.out 7).trans rfl, (blk_cell BK212.out 0).trans rfl, (blk_cell BK212.out 1).trans rfl, (blk_cell BK212.out 2).trans rfl, (blk_cell BK212.out 3).trans rfl, (blk_cell BK212.out 4).trans rfl, (blk_cell BK212.out 5).trans rfl⟩ (fun hHeld => ?_); refine with_tabW spec_PacketOk.tab14 spec_PacketOk.bits14 (fun HT_ HW_ => ?_)
              generalize w61.drew = w62 at BK212 BK223 HB hHeld ⊢
              refine pq_ 0 105 (bL 23 1) HT_.out rfl rfl ?_
              refine pq_ 2 107 (bL 23 5) HT_.out rfl rfl ?_
              refine take_ (i := 1) (N := some 106) (v := ?_) (a' := ?_) (bL 23 7) rfl rfl (take_ofW HT_.out HW_.out (by kernel_rfl)) (fun _ _ _ h => h) (Or.inl ⟨by rfl, ?_⟩) hHeld ?_ ?_; rotate_left; (rintro w' ⟨s0, s1, s2, s3, s4, s5, s6, s7, s8, s9, s10, s11, s12, s13⟩; go_simp; with_reducible rfl); rotate_left; (exact put_q)
              refine take_ (i := 3) (N := some 108) (v := ?_) (a' := ?_) (bL 23 15) rfl rfl (take_ofW HT_.out HW_.out (by kernel_rfl)) (fun _ _ _ h => h) (Or.inl ⟨by rfl, ?_⟩) hHeld ?_ ?_; rotate_left; (rintro w' ⟨s0, s1, s2, s3, s4, s5, s6, s7, s8, s9, s10, s11, s12, s13⟩; go_simp; with_reducible rfl); rotate_left; (exact put_q)
              refine pq_ 4 109 (bL 23 31) HT_.out rfl rfl ?_
              refine pq_ 5 110 (bL 23 63) HT_.out rfl rfl ?_
              have H := HZ14.out; clear HZ14
              by_cases c51 : ((rd_T24 l0_5 x4_4).f0) = a0_3
              ·rw [if_pos c51] at H
               have c51b0 : (((rd_T24 l0_5 x4_4).f0) == a0_3) = true := beq_iff_eq.mpr c51
               have c51b1 : (((rd_T24 l0_5 x4_4).f0) != a0_3) = false := bne_eq_false_iff_eq.mpr c51
               (first | rw [c51b0] | rw [c51b1] | (simp only [i64_w, i32_w]; first | rw [c51b0] | rw [c51b1]) | skip)
               clear c51; have HZ15 := Aside0.mk H; clear H
               refine pu_ 6 111 (bL 23 127) HT_.out rfl rfl ?_
               refine pu_ 7 112 (bL 23 255) HT_.out rfl rfl ?_
               refine pu_ 8 113 (bL 23 511) HT_.out rfl rfl ?_
               refine pq_ 9 114 (bL 23 1023) HT_.out rfl rfl ?_
               refine pq_ 10 115 (bL 23 2047) HT_.out rfl rfl ?_
               refine pq_ 11 116 (bL 23 4095) HT_.out rfl rfl ?_
               refine take_ (i := 12) (N := some 117) (v := ?_) (a' := ?_) (bL 23 8191) rfl rfl (take_ofW HT_.out HW_.out (by kernel_rfl)) (fun _ _ _ h => h) (Or.inl ⟨by rfl, ?_⟩) hHeld ?_ ?_; rotate_left; (rintro w' ⟨s0, s1, s2, s3, s4, s5, s6, s7, s8, s9, s10, s11, s12, s13⟩; go_simp; with_reducible rfl); rotate_left; (exact put_q)
               refine pq_ 13 118 (bL 23 16383) HT_.out rfl rfl ?_
               refine pq_ 14 119 (bL 23 32767) HT_.out rfl rfl ?_
               have H := HZ15.out; clear HZ15
               by_cases c52 : a0_0 = 2
               ·rw [if_pos c52] at H
                have c52b0 : (a0_0 == 2) = true := beq_iff_eq.mpr c52
                have c52b1 : (a0_0 != 2) = false := bne_eq_false_iff_eq.mpr c52
                (first | rw [c52b0] | rw [c52b1] | (simp only [i64_w, i32_w]; first | rw [c52b0] | rw [c52b1]) | skip)
                clear c52; replace H := Option.bind_eq_some_iff.mp H; obtain ⟨⟨t224, t225, t226, t227, t228, t229, t232, t233⟩, A530, H⟩ := H
                replace H : ((spec_l09Head.f t224 t225 t226 t227 t228 t229 t232 t233).bind fun bt234 => ((spec_SameBody.f k4 bt234.1 bt234.2.1 bt234.2.2.1 bt234.2.2.2.1 bt234.2.2.2.2.1 bt234.2.2.2.2.2.1 bt234.2.2.2.2.2.2.1 bt234.2.2.2.2.2.2.2 ((rd_T24 l0_5 x4_4).f0) ((rd_T24 l0_5 x4_4).f1) ((rd_T24 l0_5 x4_4).f2) ((rd_T24 l0_5 x4_4).f3) ((rd_T24 l0_5 x4_4).f4) ((rd_T24 l0_5 x4_4).f5) ((rd_T24 l0_5 x4_4).f6) ((rd_T24 l0_5 x4_4).f7)).bind fun t244 => (if t244 = true then (spec_PacketOk.l1 k4 (wrap64 (x4_4 + 1)) a0_0 a0_1 a0_2 a0_3 l0_4 l0_5) else (some false)))) = some r := H
                have A53 := Aside0.mk A530; clear A530; replace H := Option.bind_eq_some_iff.mp H; obtain ⟨⟨t234, t235, t236, t237, t238, t239, t242, t243⟩, A540, H⟩ := H
                replace H : ((spec_SameBody.f k4 t234 t235 t236 t237 t238 t239 t242 t243 ((rd_T24 l0_5 x4_4).f0) ((rd_T24 l0_5 x4_4).f1) ((rd_T24 l0_5 x4_4).f2) ((rd_T24 l0_5 x4_4).f3) ((rd_T24 l0_5 x4_4).f4) ((rd_T24 l0_5 x4_4).f5) ((rd_T24 l0_5 x4_4).f6) ((rd_T24 l0_5 x4_4).f7)).bind fun t244 => (if t244 = true then (spec_PacketOk.l1 k4 (wrap64 (x4_4 + 1)) a0_0 a0_1 a0_2 a0_3 l0_4 l0_5) else (some false))) = some r := H
                have A54 := Aside0.mk A540; clear A540; replace H := Option.bind_eq_some_iff.mp H; obtain ⟨t244, A550, H⟩ := H
                replace H : (if t244 = true then (spec_PacketOk.l1 k4 (wrap64 (x4_4 + 1)) a0_0 a0_1 a0_2 a0_3 l0_4 l0_5) else (some false)) = some r := H
                have A55 := Aside0.mk A550; clear A550; have HZ16 := Aside0.mk H; clear H
                refine take_ (i := 15) (N := some 120) (v := ?_) (a' := ?_) (bL 23 65535) rfl rfl (take_ofW HT_.out HW_.out (by kernel_rfl)) (fun _ _ _ h => h) (Or.inl ⟨by rfl, ?_⟩) hHeld ?_ ?_; rotate_left; (rintro w' ⟨s0, s1, s2, s3, s4, s5, s6, s7, s8, s9, s10, s11, s12, s13⟩; go_simp; with_reducible rfl); rotate_left; (exact put_q)
                refine take_ (i := 18) (N := some 123) (v := ?_) (a' := ?_) (bL 23 327679) rfl rfl (take_ofW HT_.out HW_.out (by kernel_rfl)) (fun _ _ _ h => h) (Or.inl ⟨by rfl, ?_⟩) hHeld ?_ ?_; rotate_left; (rintro w' ⟨s0, s1, s2, s3, s4, s5, s6, s7, s8, s9, s10, s11, s12, s13⟩; go_simp; with_reducible rfl); rotate_left; (exact put_q)
                refine one_ (i := 16) (N := some 121) (bL 23 393215) rfl rfl (one_of HT_.out (by kernel_rfl)) (by decide) (fun K hK => ?_)
                refine goes_ Try.func75 (by kernel_rfl) rfl #[.agg #[.int .i64 ((rd_T24 l0_5 x4_4).f0), .int .i64 ((rd_T24 l0_5 x4_4).f1), .int .i64 ((rd_T24 l0_5 x4_4).f2), .int .i64 ((rd_T24 l0_5 x4_4).f3), .int .i64 ((rd_T24 l0_5 x4_4).f4), .slice A222_5 ((rd_T24 l0_5 x4_4).f5).length c222_5, .int .i64 ((rd_T24 l0_5 x4_4).f6), .bool ((rd_T24 l0_5 x4_4).f7)]] (by rfl) rfl rfl mp_q ?_
                with_reducible refine (spec_l04Copy.calls ((rd_T24 l0_5 x4_4).f0) ((rd_T24 l0_5 x4_4).f1) ((rd_T24 l0_5 x4_4).f2) ((rd_T24 l0_5 x4_4).f3) ((rd_T24 l0_5 x4_4).f4) _ _ ((rd_T24 l0_5 x4_4).f5) ((rd_T24 l0_5 x4_4).f6) ((rd_T24 l0_5 x4_4).f7) t224 t225 t226 t227 t228 t229 t232 t233 _ ?side1 ?side2 A53.out).mono ?_
                (case side1 => exact cs_q (Kd.C_below HR222_5.out HB.out))
                (case side2 => exact HC222_5.out)
                rintro e w63 ⟨v230, rfl, ho0, hb⟩
                refine ⟨_, rfl, ?_⟩
                have hs_v230 : (v230 : Value).oneCell' = true := (by first | (have h_ := Kd.R_slice ho0; obtain ⟨A_, c_, e_⟩ := h_; simp [e_, Value.oneCell']) | (have h_ := Kd.S_slice ho0; obtain ⟨A_, c_, e_⟩ := h_; simp [e_, Value.oneCell']) | (have h_ := Kd.N_slice ho0; obtain ⟨A_, c_, e_⟩ := h_; simp [e_, Value.oneCell']) | (have h_ := Kd.V_slice ho0; obtain ⟨A_, c_, e_⟩ := h_; simp [e_, Value.oneCell']))
                have hst_v230 := fun (w_ : World) (a_ : Addr) m_ => run_store Try.prog w_ a_ v230 m_ hs_v230
                have HO231 := Aside0.mk (Kd.R_lower ho0 (below_size (bw_q HB))); replace BK212 := Aside0.mk (blk_below (g := gb212) (bk_q BK212) hb); replace BK223 := Aside0.mk (blk_below (g := gb223) (bk_q BK223) hb); replace HB := Aside0.mk (below_step (bw_q HB) hb); (try clear hb); (try clear hb2); (try clear hk); (try clear hi); (try clear ho0); obtain ⟨Ao64, co64, eo64⟩ := Kd.R_slice HO231.out
                (first | subst eo64 | (injection eo64 with f1_ f2_ f3_; have f4_ := f1_.symm; have f5_ := f3_.symm; clear f1_ f2_ f3_; subst f4_; subst f5_))
                refine hK.out _ _ ⟨(blk_cell BK223.out 0).trans rfl, (blk_cell BK223.out 1).trans rfl, (blk_cell BK223.out 2).trans rfl, (blk_cell BK223.out 3).trans rfl, (blk_cell BK223.out 4).trans rfl, (blk_cell BK223.out 5).trans rfl, (blk_cell BK223.out 6).trans rfl, (blk_cell BK223.out 7).trans rfl, (blk_cell BK212.out 0).trans rfl, (blk_cell BK212.out 1).trans rfl, (blk_cell BK212.out 2).trans rfl, (blk_cell BK212.out 3).trans rfl, (blk_cell BK212.out 4).trans rfl, (blk_cell BK212.out 5).trans rfl⟩ (fun hHeld => ?_)
                clear hK K
                refine norm_ (a' := ?_) ?_ ?_; rotate_left; (show Act.put _ (some 121) _ = _; simp only [Act.put, List.setIfInBounds_toArray, List.set_cons_zero, List.set_cons_succ, i64_w, i32_w]; rfl)
                refine one_ (i := 17) (N := some 122) (bL 23 524287) rfl rfl (one_of HT_.out (by kernel_rfl)) (by decide) (fun K hK => ?_)
                refine goes_ Try.func74 (by kernel_rfl) rfl #[.agg #[.int .i64 t224, .int .i64 t225, .int .i64 t226, .int .i64 t227, .int .i64 t228, .slice Ao64 t229.length co64, .int .i64 t232, .bool t233]] (by rfl) rfl rfl mp_q ?_
                with_reducible refine (spec_l09Head.calls t224 t225 t226 t227 t228 _ _ t229 t232 t233 t234 t235 t236 t237 t238 t239 t242 t243 _ ?side1 ?side2 A54.out).mono ?_
                (case side1 => repeat (first | exact (Kd.R_reads' HO231.out).2.2 | (with_reducible refine Kd.C_alloc ?_ _) | (with_reducible refine Kd.C_drewN ?_ _) | (with_reducible refine Kd.C_drew ?_)))
                (case side2 => exact (Kd.R_reads' HO231.out).2.1)
                rintro e w65 ⟨v240, rfl, ho0, hb⟩
                refine ⟨_, rfl, ?_⟩
                have hs_v240 : (v240 : Value).oneCell' = true := (by first | (have h_ := Kd.R_slice ho0; obtain ⟨A_, c_, e_⟩ := h_; simp [e_, Value.oneCell']) | (have h_ := Kd.S_slice ho0; obtain ⟨A_, c_, e_⟩ := h_; simp [e_, Value.oneCell']) | (have h_ := Kd.N_slice ho0; obtain ⟨A_, c_, e_⟩ := h_; simp [e_, Value.oneCell']) | (have h_ := Kd.V_slice ho0; obtain ⟨A_, c_, e_⟩ := h_; simp [e_, Value.oneCell']))
                have hst_v240 := fun (w_ : World) (a_ : Addr) m_ => run_store Try.prog w_ a_ v240 m_ hs_v240
                have HO241 := Aside0.mk (Kd.R_lower (Kd.R_new' ho0 (Kd.R_lt (kR_q HO231))) (below_size (bw_q HB))); replace HO231 := Aside0.mk (Kd.R_elder' (kR_q HO231) (Kd.R_base ho0) hb); replace BK212 := Aside0.mk (blk_below (g := gb212) (bk_q BK212) hb); replace BK223 := Aside0.mk (blk_below (g := gb223) (bk_q BK223) hb); replace HB := Aside0.mk (below_step (bw_q HB) hb); (try clear hb); (try clear hb2); (try clear hk); (try clear hi); (try clear ho0); obtain ⟨Ao66, co66, eo66⟩ := Kd.R_slice HO241.out
                (first | subst eo66 | (injection eo66 with f1_ f2_ f3_; have f4_ := f1_.symm; have f5_ := f3_.symm; clear f1_ f2_ f3_; subst f4_; subst f5_))
                refine hK.out _ _ ⟨(blk_cell BK223.out 0).trans rfl, (blk_cell BK223.out 1).trans rfl, (blk_cell BK223.out 2).trans rfl, (blk_cell BK223.out 3).trans rfl, (blk_cell BK223.out 4).trans rfl, (blk_cell BK223.out 5).trans rfl, (blk_cell BK223.out 6).trans rfl, (blk_cell BK223.out 7).trans rfl, (blk_cell BK212.out 0).trans rfl, (blk_cell BK212.out 1).trans rfl, (blk_cell BK212.out 2).trans rfl, (blk_cell BK212.out 3).trans rfl, (blk_cell BK212.out 4).trans rfl, (blk_cell BK212.out 5).trans rfl⟩ (fun hHeld => ?_)
                clear hK K
                refine norm_ (a' := ?_) ?_ ?_; rotate_left; (show Act.put _ (some 122) _ = _; simp only [Act.put, List.setIfInBounds_toArray, List.set_cons_zero, List.set_cons_succ, i64_w, i32_w]; rfl)
                refine one_ (i := 19) (N := some 124) (bL 23 1048575) rfl rfl (one_of HT_.out (by kernel_rfl)) (by decide) (fun K hK => ?_)
                refine goes_ Try.func73 (by kernel_rfl) rfl #[.agg #[.int .i64 t234, .int .i64 t235, .int .i64 t236, .int .i64 t237, .int .i64 t238, .slice Ao66 t239.length co66, .int .i64 t242, .bool t243], .agg #[.int .i64 ((rd_T24 l0_5 x4_4).f0), .int .i64 ((rd_T24 l0_5 x4_4).f1), .int .i64 ((rd_T24 l0_5 x4_4).f2), .int .i64 ((rd_T24 l0_5 x4_4).f3), .int .i64 ((rd_T24 l0_5 x4_4).f4), .slice A222_5 ((rd_T24 l0_5 x4_4).f5).length c222_5, .int .i64 ((rd_T24 l0_5 x4_4).f6), .bool ((rd_T24 l0_5 x4_4).f7)]] (by rfl) rfl rfl mp_q ?_
                with_reducible refine (spec_SameBody.calls k4 t234 t235 t236 t237 t238 _ _ t239 t242 t243 ((rd_T24 l0_5 x4_4).f0) ((rd_T24 l0_5 x4_4).f1) ((rd_T24 l0_5 x4_4).f2) ((rd_T24 l0_5 x4_4).f3) ((rd_T24 l0_5 x4_4).f4) _ _ ((rd_T24 l0_5 x4_4).f5) ((rd_T24 l0_5 x4_4).f6) ((rd_T24 l0_5 x4_4).f7) t244 _ ?side1 ?side2 ?side3 ?side4 A55.out).mono ?_
                (case side1 => repeat (first | exact (Kd.R_reads' HO241.out).2.2 | (with_reducible refine Kd.C_alloc ?_ _) | (with_reducible refine Kd.C_drewN ?_ _) | (with_reducible refine Kd.C_drew ?_)))
                (case side2 => exact (Kd.R_reads' HO241.out).2.1)
                (case side3 => exact cs_q (Kd.C_below HR222_5.out HB.out))
                (case side4 => exact HC222_5.out)
                rintro e w67 ⟨rfl, hb⟩
                refine ⟨_, rfl, ?_⟩
                replace HO231 := Aside0.mk (Kd.R_below (kR_q HO231) hb); replace HO241 := Aside0.mk (Kd.R_below (kR_q HO241) hb); replace BK212 := Aside0.mk (blk_below (g := gb212) (bk_q BK212) hb); replace BK223 := Aside0.mk (blk_below (g := gb223) (bk_q BK223) hb); replace HB := Aside0.mk (below_step (bw_q HB) hb); (try clear hb); (try clear hb2); (try clear hk); (try clear hi)
                refine hK.out _ _ ⟨(blk_cell BK223.out 0).trans rfl, (blk_cell BK223.out 1).trans rfl, (blk_cell BK223.out 2).trans rfl, (blk_cell BK223.out 3).trans rfl, (blk_cell BK223.out 4).trans rfl, (blk_cell BK223.out 5).trans rfl, (blk_cell BK223.out 6).trans rfl, (blk_cell BK223.out 7).trans rfl, (blk_cell BK212.out 0).trans rfl, (blk_cell BK212.out 1).trans rfl, (blk_cell BK212.out 2).trans rfl, (blk_cell BK212.out 3).trans rfl, (blk_cell BK212.out 4).trans rfl, (blk_cell BK212.out 5).trans rfl⟩ (fun hHeld => ?_)
                clear hK K
                refine norm_ (a' := ?_) ?_ ?_; rotate_left; (show Act.put _ (some 124) _ = _; simp only [Act.put, List.setIfInBounds_toArray, List.set_cons_zero, List.set_cons_succ, i64_w, i32_w]; rfl)
                refine pq_ 20 125 (bL 23 2097151) HT_.out rfl rfl ?_
                refine pq_ 21 126 (bL 23 4194303) HT_.out rfl rfl ?_
                refine pq_ 22 127 (bL 23 8388607) HT_.out rfl rfl ?_
                have H := HZ16.out; clear HZ16
                by_cases c56 : t244 = true
                ·subst c56
                 replace H : (spec_PacketOk.l1 k4 (wrap64 (x4_4 + 1)) a0_0 a0_1 a0_2 a0_3 l0_4 l0_5) = some r := by rw [if_pos rfl] at H; exact H
                 have H' := Aside0.mk H; clear H
                 refine done_ (done_of HT_.out (by kernel_rfl)) ?_
                 try go_wp2
                 go_roundg k4
                 case measure => have := HJ1.out; have := HK2.out; have := HJ34.out; have := HK4.out; omega
                 case rel => exact ⟨(wrap64 (x4_4 + 1)), (by first | rfl | (simp; done) | (simp [*]; done)), H', ⟨by have := HJ1.out; have := HK2.out; have := HJ34.out; have := HK4.out; omega⟩, ⟨by refine bz_ ?_; exact BK212.out⟩, ⟨bw_q HB⟩⟩
                ·replace c56 := Bool.eq_false_iff.mpr c56; subst c56
                 replace H : (some false) = some r := by rw [if_neg (show ¬ (false = true) by decide)] at H; exact H
                 obtain rfl := Option.some.inj H
                 refine done_ (done_of HT_.out (by kernel_rfl)) ?_
                 try go_wp2
                 go_ret
                 exact ⟨er_q, bw_q HB⟩
               ·rw [if_neg c52] at H
                have c52b0 : (a0_0 == 2) = false := beq_eq_false_iff_ne.mpr c52
                have c52b1 : (a0_0 != 2) = true := bne_iff_ne.mpr c52
                (first | rw [c52b0] | rw [c52b1] | (simp only [i64_w, i32_w]; first | rw [c52b0] | rw [c52b1]) | skip)
                have H' := Aside0.mk H; clear H
                refine pu_ 15 120 (bL 23 65535) HT_.out rfl rfl ?_
                refine pu_ 16 121 (bL 23 131071) HT_.out rfl rfl ?_
                refine pu_ 17 122 (bL 23 262143) HT_.out rfl rfl ?_
                refine pu_ 18 123 (bL 23 524287) HT_.out rfl rfl ?_
                refine pu_ 19 124 (bL 23 1048575) HT_.out rfl rfl ?_
                refine pu_ 20 125 (bL 23 2097151) HT_.out rfl rfl ?_
                refine pq_ 21 126 (bL 23 4194303) HT_.out rfl rfl ?_
                refine pq_ 22 127 (bL 23 8388607) HT_.out rfl rfl ?_
                refine done_ (done_of HT_.out (by kernel_rfl)) ?_
                try go_wp2
                go_roundg k4
                case measure => have := HJ1.out; have := HK2.out; have := HJ34.out; have := HK4.out; omega
                case rel => exact ⟨(wrap64 (x4_4 + 1)), (by first | rfl | (simp; done) | (simp [*]; done)), H', ⟨by have := HJ1.out; have := HK2.out; have := HJ34.out; have := HK4.out; omega⟩, ⟨by refine bz_ ?_; exact BK212.out⟩, ⟨bw_q HB⟩⟩
              ·rw [if_neg c51] at H
               have c51b0 : (((rd_T24 l0_5 x4_4).f0) == a0_3) = false := beq_eq_false_iff_ne.mpr c51
               have c51b1 : (((rd_T24 l0_5 x4_4).f0) != a0_3) = true := bne_iff_ne.mpr c51
               (first | rw [c51b0] | rw [c51b1] | (simp only [i64_w, i32_w]; first | rw [c51b0] | rw [c51b1]) | skip)
               have HZ17 := Aside0.mk H; clear H
               refine pq_ 6 111 (bL 23 127) HT_.out rfl rfl ?_
               refine take_ (i := 7) (N := some 112) (v := ?_) (a' := ?_) (bL 23 255) rfl rfl (take_ofW HT_.out HW_.out (by kernel_rfl)) (fun _ _ _ h => h) (Or.inl ⟨by rfl, ?_⟩) hHeld ?_ ?_; rotate_left; (rintro w' ⟨s0, s1, s2, s3, s4, s5, s6, s7, s8, s9, s10, s11, s12, s13⟩; go_simp; with_reducible rfl); rotate_left; (exact put_q)
               refine pq_ 8 113 (bL 23 511) HT_.out rfl rfl ?_
               refine pq_ 9 114 (bL 23 1023) HT_.out rfl rfl ?_
               refine pq_ 10 115 (bL 23 2047) HT_.out rfl rfl ?_
               have H := HZ17.out; clear HZ17
               by_cases c85 : ((rd_T24 l0_5 x4_4).f0) = 9
               ·rw [if_pos c85] at H
                have c85b0 : (((rd_T24 l0_5 x4_4).f0) == 9) = true := beq_iff_eq.mpr c85
                have c85b1 : (((rd_T24 l0_5 x4_4).f0) != 9) = false := bne_eq_false_iff_eq.mpr c85
                (first | rw [c85b0] | rw [c85b1] | (simp only [i64_w, i32_w]; first | rw [c85b0] | rw [c85b1]) | skip)
                clear c85; have HZ18 := Aside0.mk H; clear H
                refine pq_ 11 116 (bL 23 4095) HT_.out rfl rfl ?_
                refine take_ (i := 12) (N := some 117) (v := ?_) (a' := ?_) (bL 23 8191) rfl rfl (take_ofW HT_.out HW_.out (by kernel_rfl)) (fun _ _ _ h => h) (Or.inl ⟨by rfl, ?_⟩) hHeld ?_ ?_; rotate_left; (rintro w' ⟨s0, s1, s2, s3, s4, s5, s6, s7, s8, s9, s10, s11, s12, s13⟩; go_simp; with_reducible rfl); rotate_left; (exact put_q)
                refine pq_ 13 118 (bL 23 16383) HT_.out rfl rfl ?_
                refine pq_ 14 119 (bL 23 32767) HT_.out rfl rfl ?_
                have H := HZ18.out; clear HZ18
                by_cases c86 : a0_0 = 2
                ·rw [if_pos c86] at H
                 have c86b0 : (a0_0 == 2) = true := beq_iff_eq.mpr c86
                 have c86b1 : (a0_0 != 2) = false := bne_eq_false_iff_eq.mpr c86
                 (first | rw [c86b0] | rw [c86b1] | (simp only [i64_w, i32_w]; first | rw [c86b0] | rw [c86b1]) | skip)
                 clear c86; replace H := Option.bind_eq_some_iff.mp H; obtain ⟨⟨t245, t246, t247, t248, t249, t250, t253, t254⟩, A870, H⟩ := H
                 replace H : ((spec_l09Head.f t245 t246 t247 t248 t249 t250 t253 t254).bind fun bt255 => ((spec_SameBody.f k4 bt255.1 bt255.2.1 bt255.2.2.1 bt255.2.2.2.1 bt255.2.2.2.2.1 bt255.2.2.2.2.2.1 bt255.2.2.2.2.2.2.1 bt255.2.2.2.2.2.2.2 ((rd_T24 l0_5 x4_4).f0) ((rd_T24 l0_5 x4_4).f1) ((rd_T24 l0_5 x4_4).f2) ((rd_T24 l0_5 x4_4).f3) ((rd_T24 l0_5 x4_4).f4) ((rd_T24 l0_5 x4_4).f5) ((rd_T24 l0_5 x4_4).f6) ((rd_T24 l0_5 x4_4).f7)).bind fun t265 => (if t265 = true then (spec_PacketOk.l1 k4 (wrap64 (x4_4 + 1)) a0_0 a0_1 a0_2 a0_3 l0_4 l0_5) else (some false)))) = some r := H
                 have A87 := Aside0.mk A870; clear A870; replace H := Option.bind_eq_some_iff.mp H; obtain ⟨⟨t255, t256, t257, t258, t259, t260, t263, t264⟩, A880, H⟩ := H
                 replace H : ((spec_SameBody.f k4 t255 t256 t257 t258 t259 t260 t263 t264 ((rd_T24 l0_5 x4_4).f0) ((rd_T24 l0_5 x4_4).f1) ((rd_T24 l0_5 x4_4).f2) ((rd_T24 l0_5 x4_4).f3) ((rd_T24 l0_5 x4_4).f4) ((rd_T24 l0_5 x4_4).f5) ((rd_T24 l0_5 x4_4).f6) ((rd_T24 l0_5 x4_4).f7)).bind fun t265 => (if t265 = true then (spec_PacketOk.l1 k4 (wrap64 (x4_4 + 1)) a0_0 a0_1 a0_2 a0_3 l0_4 l0_5) else (some false))) = some r := H
                 have A88 := Aside0.mk A880; clear A880; replace H := Option.bind_eq_some_iff.mp H; obtain ⟨t265, A890, H⟩ := H
                 replace H : (if t265 = true then (spec_PacketOk.l1 k4 (wrap64 (x4_4 + 1)) a0_0 a0_1 a0_2 a0_3 l0_4 l0_5) else (some false)) = some r := H
                 have A89 := Aside0.mk A890; clear A890; have HZ19 := Aside0.mk H; clear H
                 refine take_ (i := 15) (N := some 120) (v := ?_) (a' := ?_) (bL 23 65535) rfl rfl (take_ofW HT_.out HW_.out (by kernel_rfl)) (fun _ _ _ h => h) (Or.inl ⟨by rfl, ?_⟩) hHeld ?_ ?_; rotate_left; (rintro w' ⟨s0, s1, s2, s3, s4, s5, s6, s7, s8, s9, s10, s11, s12, s13⟩; go_simp; with_reducible rfl); rotate_left; (exact put_q)
                 refine take_ (i := 18) (N := some 123) (v := ?_) (a' := ?_) (bL 23 327679) rfl rfl (take_ofW HT_.out HW_.out (by kernel_rfl)) (fun _ _ _ h => h) (Or.inl ⟨by rfl, ?_⟩) hHeld ?_ ?_; rotate_left; (rintro w' ⟨s0, s1, s2, s3, s4, s5, s6, s7, s8, s9, s10, s11, s12, s13⟩; go_simp; with_reducible rfl); rotate_left; (exact put_q)
                 refine one_ (i := 16) (N := some 121) (bL 23 393215) rfl rfl (one_of HT_.out (by kernel_rfl)) (by decide) (fun K hK => ?_)
                 refine goes_ Try.func75 (by kernel_rfl) rfl #[.agg #[.int .i64 ((rd_T24 l0_5 x4_4).f0), .int .i64 ((rd_T24 l0_5 x4_4).f1), .int .i64 ((rd_T24 l0_5 x4_4).f2), .int .i64 ((rd_T24 l0_5 x4_4).f3), .int .i64 ((rd_T24 l0_5 x4_4).f4), .slice A222_5 ((rd_T24 l0_5 x4_4).f5).length c222_5, .int .i64 ((rd_T24 l0_5 x4_4).f6), .bool ((rd_T24 l0_5 x4_4).f7)]] (by rfl) rfl rfl mp_q ?_
                 with_reducible refine (spec_l04Copy.calls ((rd_T24 l0_5 x4_4).f0) ((rd_T24 l0_5 x4_4).f1) ((rd_T24 l0_5 x4_4).f2) ((rd_T24 l0_5 x4_4).f3) ((rd_T24 l0_5 x4_4).f4) _ _ ((rd_T24 l0_5 x4_4).f5) ((rd_T24 l0_5 x4_4).f6) ((rd_T24 l0_5 x4_4).f7) t245 t246 t247 t248 t249 t250 t253 t254 _ ?side1 ?side2 A87.out).mono ?_
                 (case side1 => exact cs_q (Kd.C_below HR222_5.out HB.out))
                 (case side2 => exact HC222_5.out)
                 rintro e w97 ⟨v251, rfl, ho0, hb⟩
                 refine ⟨_, rfl, ?_⟩
                 have hs_v251 : (v251 : Value).oneCell' = true := (by first | (have h_ := Kd.R_slice ho0; obtain ⟨A_, c_, e_⟩ := h_; simp [e_, Value.oneCell']) | (have h_ := Kd.S_slice ho0; obtain ⟨A_, c_, e_⟩ := h_; simp [e_, Value.oneCell']) | (have h_ := Kd.N_slice ho0; obtain ⟨A_, c_, e_⟩ := h_; simp [e_, Value.oneCell']) | (have h_ := Kd.V_slice ho0; obtain ⟨A_, c_, e_⟩ := h_; simp [e_, Value.oneCell']))
                 have hst_v251 := fun (w_ : World) (a_ : Addr) m_ => run_store Try.prog w_ a_ v251 m_ hs_v251
                 have HO252 := Aside0.mk (Kd.R_lower ho0 (below_size (bw_q HB))); replace BK212 := Aside0.mk (blk_below (g := gb212) (bk_q BK212) hb); replace BK223 := Aside0.mk (blk_below (g := gb223) (bk_q BK223) hb); replace HB := Aside0.mk (below_step (bw_q HB) hb); (try clear hb); (try clear hb2); (try clear hk); (try clear hi); (try clear ho0); obtain ⟨Ao98, co98, eo98⟩ := Kd.R_slice HO252.out
                 (first | subst eo98 | (injection eo98 with f1_ f2_ f3_; have f4_ := f1_.symm; have f5_ := f3_.symm; clear f1_ f2_ f3_; subst f4_; subst f5_))
                 refine hK.out _ _ ⟨(blk_cell BK223.out 0).trans rfl, (blk_cell BK223.out 1).trans rfl, (blk_cell BK223.out 2).trans rfl, (blk_cell BK223.out 3).trans rfl, (blk_cell BK223.out 4).trans rfl, (blk_cell BK223.out 5).trans rfl, (blk_cell BK223.out 6).trans rfl, (blk_cell BK223.out 7).trans rfl, (blk_cell BK212.out 0).trans rfl, (blk_cell BK212.out 1).trans rfl, (blk_cell BK212.out 2).trans rfl, (blk_cell BK212.out 3).trans rfl, (blk_cell BK212.out 4).trans rfl, (blk_cell BK212.out 5).trans rfl⟩ (fun hHeld => ?_)
                 clear hK K
                 refine norm_ (a' := ?_) ?_ ?_; rotate_left; (show Act.put _ (some 121) _ = _; simp only [Act.put, List.setIfInBounds_toArray, List.set_cons_zero, List.set_cons_succ, i64_w, i32_w]; rfl)
                 refine one_ (i := 17) (N := some 122) (bL 23 524287) rfl rfl (one_of HT_.out (by kernel_rfl)) (by decide) (fun K hK => ?_)
                 refine goes_ Try.func74 (by kernel_rfl) rfl #[.agg #[.int .i64 t245, .int .i64 t246, .int .i64 t247, .int .i64 t248, .int .i64 t249, .slice Ao98 t250.length co98, .int .i64 t253, .bool t254]] (by rfl) rfl rfl mp_q ?_
                 with_reducible refine (spec_l09Head.calls t245 t246 t247 t248 t249 _ _ t250 t253 t254 t255 t256 t257 t258 t259 t260 t263 t264 _ ?side1 ?side2 A88.out).mono ?_
                 (case side1 => repeat (first | exact (Kd.R_reads' HO252.out).2.2 | (with_reducible refine Kd.C_alloc ?_ _) | (with_reducible refine Kd.C_drewN ?_ _) | (with_reducible refine Kd.C_drew ?_)))
                 (case side2 => exact (Kd.R_reads' HO252.out).2.1)
                 rintro e w99 ⟨v261, rfl, ho0, hb⟩
                 refine ⟨_, rfl, ?_⟩
                 have hs_v261 : (v261 : Value).oneCell' = true := (by first | (have h_ := Kd.R_slice ho0; obtain ⟨A_, c_, e_⟩ := h_; simp [e_, Value.oneCell']) | (have h_ := Kd.S_slice ho0; obtain ⟨A_, c_, e_⟩ := h_; simp [e_, Value.oneCell']) | (have h_ := Kd.N_slice ho0; obtain ⟨A_, c_, e_⟩ := h_; simp [e_, Value.oneCell']) | (have h_ := Kd.V_slice ho0; obtain ⟨A_, c_, e_⟩ := h_; simp [e_, Value.oneCell']))
                 have hst_v261 := fun (w_ : World) (a_ : Addr) m_ => run_store Try.prog w_ a_ v261 m_ hs_v261
                 have HO262 := Aside0.mk (Kd.R_lower (Kd.R_new' ho0 (Kd.R_lt (kR_q HO252))) (below_size (bw_q HB))); replace HO252 := Aside0.mk (Kd.R_elder' (kR_q HO252) (Kd.R_base ho0) hb); replace BK212 := Aside0.mk (blk_below (g := gb212) (bk_q BK212) hb); replace BK223 := Aside0.mk (blk_below (g := gb223) (bk_q BK223) hb); replace HB := Aside0.mk (below_step (bw_q HB) hb); (try clear hb); (try clear hb2); (try clear hk); (try clear hi); (try clear ho0); obtain ⟨Ao100, co100, eo100⟩ := Kd.R_slice HO262.out
                 (first | subst eo100 | (injection eo100 with f1_ f2_ f3_; have f4_ := f1_.symm; have f5_ := f3_.symm; clear f1_ f2_ f3_; subst f4_; subst f5_))
                 refine hK.out _ _ ⟨(blk_cell BK223.out 0).trans rfl, (blk_cell BK223.out 1).trans rfl, (blk_cell BK223.out 2).trans rfl, (blk_cell BK223.out 3).trans rfl, (blk_cell BK223.out 4).trans rfl, (blk_cell BK223.out 5).trans rfl, (blk_cell BK223.out 6).trans rfl, (blk_cell BK223.out 7).trans rfl, (blk_cell BK212.out 0).trans rfl, (blk_cell BK212.out 1).trans rfl, (blk_cell BK212.out 2).trans rfl, (blk_cell BK212.out 3).trans rfl, (blk_cell BK212.out 4).trans rfl, (blk_cell BK212.out 5).trans rfl⟩ (fun hHeld => ?_)
                 clear hK K
                 refine norm_ (a' := ?_) ?_ ?_; rotate_left; (show Act.put _ (some 122) _ = _; simp only [Act.put, List.setIfInBounds_toArray, List.set_cons_zero, List.set_cons_succ, i64_w, i32_w]; rfl)
                 refine one_ (i := 19) (N := some 124) (bL 23 1048575) rfl rfl (one_of HT_.out (by kernel_rfl)) (by decide) (fun K hK => ?_)
                 refine goes_ Try.func73 (by kernel_rfl) rfl #[.agg #[.int .i64 t255, .int .i64 t256, .int .i64 t257, .int .i64 t258, .int .i64 t259, .slice Ao100 t260.length co100, .int .i64 t263, .bool t264], .agg #[.int .i64 ((rd_T24 l0_5 x4_4).f0), .int .i64 ((rd_T24 l0_5 x4_4).f1), .int .i64 ((rd_T24 l0_5 x4_4).f2), .int .i64 ((rd_T24 l0_5 x4_4).f3), .int .i64 ((rd_T24 l0_5 x4_4).f4), .slice A222_5 ((rd_T24 l0_5 x4_4).f5).length c222_5, .int .i64 ((rd_T24 l0_5 x4_4).f6), .bool ((rd_T24 l0_5 x4_4).f7)]] (by rfl) rfl rfl mp_q ?_
                 with_reducible refine (spec_SameBody.calls k4 t255 t256 t257 t258 t259 _ _ t260 t263 t264 ((rd_T24 l0_5 x4_4).f0) ((rd_T24 l0_5 x4_4).f1) ((rd_T24 l0_5 x4_4).f2) ((rd_T24 l0_5 x4_4).f3) ((rd_T24 l0_5 x4_4).f4) _ _ ((rd_T24 l0_5 x4_4).f5) ((rd_T24 l0_5 x4_4).f6) ((rd_T24 l0_5 x4_4).f7) t265 _ ?side1 ?side2 ?side3 ?side4 A89.out).mono ?_
                 (case side1 => repeat (first | exact (Kd.R_reads' HO262.out).2.2 | (with_reducible refine Kd.C_alloc ?_ _) | (with_reducible refine Kd.C_drewN ?_ _) | (with_reducible refine Kd.C_drew ?_)))
                 (case side2 => exact (Kd.R_reads' HO262.out).2.1)
                 (case side3 => exact cs_q (Kd.C_below HR222_5.out HB.out))
                 (case side4 => exact HC222_5.out)
                 rintro e w101 ⟨rfl, hb⟩
                 refine ⟨_, rfl, ?_⟩
                 replace HO252 := Aside0.mk (Kd.R_below (kR_q HO252) hb); replace HO262 := Aside0.mk (Kd.R_below (kR_q HO262) hb); replace BK212 := Aside0.mk (blk_below (g := gb212) (bk_q BK212) hb); replace BK223 := Aside0.mk (blk_below (g := gb223) (bk_q BK223) hb); replace HB := Aside0.mk (below_step (bw_q HB) hb); (try clear hb); (try clear hb2); (try clear hk); (try clear hi)
                 refine hK.out _ _ ⟨(blk_cell BK223.out 0).trans rfl, (blk_cell BK223.out 1).trans rfl, (blk_cell BK223.out 2).trans rfl, (blk_cell BK223.out 3).trans rfl, (blk_cell BK223.out 4).trans rfl, (blk_cell BK223.out 5).trans rfl, (blk_cell BK223.out 6).trans rfl, (blk_cell BK223.out 7).trans rfl, (blk_cell BK212.out 0).trans rfl, (blk_cell BK212.out 1).trans rfl, (blk_cell BK212.out 2).trans rfl, (blk_cell BK212.out 3).trans rfl, (blk_cell BK212.out 4).trans rfl, (blk_cell BK212.out 5).trans rfl⟩ (fun hHeld => ?_)
                 clear hK K
                 refine norm_ (a' := ?_) ?_ ?_; rotate_left; (show Act.put _ (some 124) _ = _; simp only [Act.put, List.setIfInBounds_toArray, List.set_cons_zero, List.set_cons_succ, i64_w, i32_w]; rfl)
                 refine pq_ 20 125 (bL 23 2097151) HT_.out rfl rfl ?_
                 refine pq_ 21 126 (bL 23 4194303) HT_.out rfl rfl ?_
                 refine pq_ 22 127 (bL 23 8388607) HT_.out rfl rfl ?_
                 have H := HZ19.out; clear HZ19
                 by_cases c90 : t265 = true
                 ·subst c90
                  replace H : (spec_PacketOk.l1 k4 (wrap64 (x4_4 + 1)) a0_0 a0_1 a0_2 a0_3 l0_4 l0_5) = some r := by rw [if_pos rfl] at H; exact H
                  have H' := Aside0.mk H; clear H
                  refine done_ (done_of HT_.out (by kernel_rfl)) ?_
                  try go_wp2
                  go_roundg k4
                  case measure => have := HJ1.out; have := HK2.out; have := HJ34.out; have := HK4.out; omega
                  case rel => exact ⟨(wrap64 (x4_4 + 1)), (by first | rfl | (simp; done) | (simp [*]; done)), H', ⟨by have := HJ1.out; have := HK2.out; have := HJ34.out; have := HK4.out; omega⟩, ⟨by refine bz_ ?_; exact BK212.out⟩, ⟨bw_q HB⟩⟩
                 ·replace c90 := Bool.eq_false_iff.mpr c90; subst c90
                  replace H : (some false) = some r := by rw [if_neg (show ¬ (false = true) by decide)] at H; exact H
                  obtain rfl := Option.some.inj H
                  refine done_ (done_of HT_.out (by kernel_rfl)) ?_
                  try go_wp2
                  go_ret
                  exact ⟨er_q, bw_q HB⟩
                ·rw [if_neg c86] at H
                 have c86b0 : (a0_0 == 2) = false := beq_eq_false_iff_ne.mpr c86
                 have c86b1 : (a0_0 != 2) = true := bne_iff_ne.mpr c86
                 (first | rw [c86b0] | rw [c86b1] | (simp only [i64_w, i32_w]; first | rw [c86b0] | rw [c86b1]) | skip)
                 have H' := Aside0.mk H; clear H
                 refine pu_ 15 120 (bL 23 65535) HT_.out rfl rfl ?_
                 refine pu_ 16 121 (bL 23 131071) HT_.out rfl rfl ?_
                 refine pu_ 17 122 (bL 23 262143) HT_.out rfl rfl ?_
                 refine pu_ 18 123 (bL 23 524287) HT_.out rfl rfl ?_
                 refine pu_ 19 124 (bL 23 1048575) HT_.out rfl rfl ?_
                 refine pu_ 20 125 (bL 23 2097151) HT_.out rfl rfl ?_
                 refine pq_ 21 126 (bL 23 4194303) HT_.out rfl rfl ?_
                 refine pq_ 22 127 (bL 23 8388607) HT_.out rfl rfl ?_
                 refine done_ (done_of HT_.out (by kernel_rfl)) ?_
                 try go_wp2
                 go_roundg k4
                 case measure => have := HJ1.out; have := HK2.out; have := HJ34.out; have := HK4.out; omega
                 case rel => exact ⟨(wrap64 (x4_4 + 1)), (by first | rfl | (simp; done) | (simp [*]; done)), H', ⟨by have := HJ1.out; have := HK2.out; have := HJ34.out; have := HK4.out; omega⟩, ⟨by refine bz_ ?_; exact BK212.out⟩, ⟨bw_q HB⟩⟩
               ·rw [if_neg c85] at H
                have c85b0 : (((rd_T24 l0_5 x4_4).f0) == 9) = false := beq_eq_false_iff_ne.mpr c85
                have c85b1 : (((rd_T24 l0_5 x4_4).f0) != 9) = true := bne_iff_ne.mpr c85
                (first | rw [c85b0] | rw [c85b1] | (simp only [i64_w, i32_w]; first | rw [c85b0] | rw [c85b1]) | skip)
                obtain rfl := Option.some.inj H
                refine pu_ 11 116 (bL 23 4095) HT_.out rfl rfl ?_
                refine pu_ 12 117 (bL 23 8191) HT_.out rfl rfl ?_
                refine pu_ 13 118 (bL 23 16383) HT_.out rfl rfl ?_
                refine pu_ 14 119 (bL 23 32767) HT_.out rfl rfl ?_
                refine pu_ 15 120 (bL 23 65535) HT_.out rfl rfl ?_
                refine pu_ 16 121 (bL 23 131071) HT_.out rfl rfl ?_
                refine pu_ 17 122 (bL 23 262143) HT_.out rfl rfl ?_
                refine pu_ 18 123 (bL 23 524287) HT_.out rfl rfl ?_
                refine pu_ 19 124 (bL 23 1048575) HT_.out rfl rfl ?_
                refine pu_ 20 125 (bL 23 2097151) HT_.out rfl rfl ?_
                refine pu_ 21 126 (bL 23 4194303) HT_.out rfl rfl ?_
                refine pq_ 22 127 (bL 23 8388607) HT_.out rfl rfl ?_
                refine done_ (done_of HT_.out (by kernel_rfl)) ?_
                try go_wp2
                go_ret
                exact ⟨er_q, bw_q HB⟩
             ·rw [if_neg c50] at H
              exact absurd H (by simp)
            ·rw [if_neg c49] at H
             have c49b0 : decide (x4_4 < (l0_5.length : Int)) = false := decide_eq_false c49
             clear c49; obtain rfl := Option.some.inj H
             have hcz125_0 : wr.cell? ⟨gb212, 0, none⟩ = some (.int .i64 a0_0) := (blk_cell BK212.out 0).trans rfl
             have hcz125_1 : wr.cell? ⟨gb212, 1, none⟩ = some (.int .i64 a0_1) := (blk_cell BK212.out 1).trans rfl
             have hcz125_2 : wr.cell? ⟨gb212, 2, none⟩ = some (.int .i64 a0_2) := (blk_cell BK212.out 2).trans rfl
             have hcz125_3 : wr.cell? ⟨gb212, 3, none⟩ = some (.int .i64 a0_3) := (blk_cell BK212.out 3).trans rfl
             have hcz125_4 : wr.cell? ⟨gb212, 4, none⟩ = some (.slice A0_4 l0_4.length c0_4) := (blk_cell BK212.out 4).trans rfl
             have hcz125_5 : wr.cell? ⟨gb212, 5, none⟩ = some (.slice A0_5 l0_5.length c0_5) := (blk_cell BK212.out 5).trans rfl
             have hfz125_0 := blk_frozen BK212.out 0; have hfz125_1 := blk_frozen BK212.out 1; have hfz125_2 := blk_frozen BK212.out 2; have hfz125_3 := blk_frozen BK212.out 3; have hfz125_4 := blk_frozen BK212.out 4; have hfz125_5 := blk_frozen BK212.out 5
             go_wp2
             go_ret
             exact ⟨er_q, bw_q HB⟩

end Go.Proofs.Ytnecbkognpponaa.Q
