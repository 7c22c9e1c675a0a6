import Derived.Test.YtnecbkognpponaaXFnTurnedQspecDrawSumOf
/- A Go function as a Lean function, and its contract: for every input the Go code comes to what the Lean function tells. -/




namespace Go.Proofs.Ytnecbkognpponaa.Q
open Go.RowKit Go.Proofs.YtnecbkognpponaaW.PrintWords Go.Proofs.YtnecbkognpponaaW.PrintLast Go.Proofs.YtnecbkognpponaaW.PrintMore
attribute [local go_sem] max2_int min2_int max_two min_two max_three min_three max_four min_four   -- for this text's walks alone
set_option linter.unusedVariables false
set_option linter.unusedSimpArgs false

/-! ### spec_DrawPlaces: function 33 -/
def spec_DrawPlaces.l0 : Nat → List Int → Int → List Int → Int → Int → Option (List Int)
 | 0, _, _, _, _, _ => none
 | k + 1, x4, x5, x1038000, x1038001, x1038002 => if x5 < 12 then ((spec_l01Below.f x1038000 x1038001 x1038002 10000).bind fun bt1044 => (if x4.length < 17592186044416 then (spec_DrawPlaces.l0 k (x4 ++ [bt1044.1]) (wrap64 (x5 + 1)) x1038000 bt1044.2.1 bt1044.2.2) else (none))) else (some x4)
def spec_DrawPlaces.f (k : Nat) (l0 : List Int) : Option (List Int) := (spec_l01New.f k l0).bind fun bt1034 => ((spec_l01Byte.f bt1034.1 bt1034.2.1 bt1034.2.2).bind fun bt1038 => (spec_DrawPlaces.l0 k (([] : List Int)) 0 bt1034.1 bt1038.2.1 bt1038.2.2))
theorem spec_DrawPlaces.mono_l : ∀ k, (∀ y0 y1 y2 y3 y4, LeO (spec_DrawPlaces.l0 k y0 y1 y2 y3 y4) (spec_DrawPlaces.l0 (k + 1) y0 y1 y2 y3 y4))
 | 0 => fun _ _ _ _ _ r h => by simp [spec_DrawPlaces.l0] at h
 | k + 1 => by
  have ih0 := spec_DrawPlaces.mono_l k
  ·intro y0 y1 y2 y3 y4
   unfold spec_DrawPlaces.l0
   repeat' first
   | (with_reducible exact ih0 _ _ _ _ _)
   | (with_reducible exact spec_l01New.mono _ _)
   | (with_reducible exact LeO.refl _)
   | (with_reducible exact LeO.none _)
   | (with_reducible refine LeO.ite ?_ ?_)
   | (with_reducible refine LeO.bind ?_ (fun _ => ?_))
   | exact ih0 _ _ _ _ _
   | exact spec_l01New.mono _ _
   | exact LeO.none _
   | refine LeO.ite ?_ ?_
   | refine LeO.bind ?_ (fun _ => ?_)
theorem spec_DrawPlaces.mono : ∀ a0 k, LeO (spec_DrawPlaces.f k a0) (spec_DrawPlaces.f (k + 1) a0) := by
 intro a0 k
 have ih0 := spec_DrawPlaces.mono_l k
 unfold spec_DrawPlaces.f
 repeat' first
   | (with_reducible exact ih0 _ _ _ _ _)
   | (with_reducible exact spec_l01New.mono _ _)
   | (with_reducible exact LeO.refl _)
   | (with_reducible exact LeO.none _)
   | (with_reducible refine LeO.ite ?_ ?_)
   | (with_reducible refine LeO.bind ?_ (fun _ => ?_))
   | exact ih0 _ _ _ _ _
   | exact spec_l01New.mono _ _
   | exact LeO.none _
   | refine LeO.ite ?_ ?_
   | refine LeO.bind ?_ (fun _ => ?_)
set_option maxHeartbeats 8000000 in
set_option maxRecDepth 100000 in
theorem spec_DrawPlaces.calls (k : Nat) (A0 : Option Addr) (c0 : Nat) (l0 : List Int) (r : List Int) (w : World) (hr0 : Kd.C (Kd.int .u8) w A0 l0.length l0) (hc0 : l0.length ≤ c0) (h : spec_DrawPlaces.f k l0 = some r) :
  Calls Try.prog 33 #[.slice A0 l0.length c0] w fun e w' => ∃ v0_ : Value, e = .returned (v0_) ∧ Kd.R (Kd.int .i64) 3 w' w.heap.size (fun _ => True) v0_ r ∧ Below w.heap.size w w' := by
 have HR0 := Aside0.mk hr0
 have HC0 := Aside0.mk hc0
 clear hr0 hc0
 have HB := Aside0.mk (Below.refl w.heap.size w)
 have H : ((spec_l01New.f k l0).bind fun bt1034 => ((spec_l01Byte.f bt1034.1 bt1034.2.1 bt1034.2.2).bind fun bt1038 => (spec_DrawPlaces.l0 k (([] : List Int)) 0 bt1034.1 bt1038.2.1 bt1038.2.2))) = some r := h
 clear h
 replace H := Option.bind_eq_some_iff.mp H
 obtain ⟨⟨t1034, t1035, t1036⟩, A20, H⟩ := H
 replace H : ((spec_l01Byte.f t1034 t1035 t1036).bind fun bt1038 => (spec_DrawPlaces.l0 k (([] : List Int)) 0 t1034 bt1038.2.1 bt1038.2.2)) = some r := H
 have A2 := Aside0.mk A20
 clear A20
 replace H := Option.bind_eq_some_iff.mp H
 obtain ⟨⟨t1038, t1039, t1040⟩, A30, H⟩ := H
 replace H : (spec_DrawPlaces.l0 k (([] : List Int)) 0 t1034 t1039 t1040) = some r := H
 have A3 := Aside0.mk A30
 clear A30
 obtain ⟨y1041, hy1041⟩ : ∃ y_ : List Int, y_ = (([] : List Int)) := ⟨_, rfl⟩
 replace H : (spec_DrawPlaces.l0 k y1041 0 t1034 t1039 t1040) = some r := by first | (rw [hy1041]; with_reducible exact H) | (have H2_ := (Option.bind_some _ _).symm.trans H; rw [hy1041]; with_reducible exact H2_) | (have H2_ := (Option.bind_some _ _).symm.trans H; with_reducible exact H2_) | with_reducible exact H | (rw [hy1041]; exact H) | exact H
 have Ny1041 := Aside0.mk hy1041
 clear hy1041
 have H' := Aside0.mk H
 clear H
 go_enter Try.func33, Try.ntmps33
 go_wp2_with (first | ((with_reducible refine gate_callee (f := 66) rfl ?_); refine goesL_ (some 7) rfl rfl Try.func66 (by kernel_rfl) rfl #[.slice A0 l0.length c0] rfl mp_q ?_; (with_reducible refine (spec_l01New.calls k _ _ l0 t1034 t1035 t1036 w _ ?side1 ?side2 ?side3 A2.out).mono ?_); (case side1 => repeat (first | (with_reducible first | exact HB.out | apply below_alloc | apply pw_below_drewN | apply below_drew1) | exact HB.out)); (case side2 => exact HR0.out); (case side3 => exact HC0.out); rintro e w4 ⟨g1037, rfl, hi, hb, hb2⟩; refine ⟨_, rfl, ?_⟩; replace HB := Aside0.mk (hb); have HI1037 := Aside0.mk (hi); (try clear hb); (try clear hb2); (try clear hk); (try clear hi)) | ((with_reducible refine gate_callee (f := 81) rfl ?_); refine goesL_ (some 9) rfl rfl Try.func81 (by kernel_rfl) rfl #[.pointer (some ⟨g1037, 0, none⟩)] rfl mp_q ?_; (with_reducible refine (spec_l01Byte.calls g1037 t1034 t1035 t1036 t1038 t1039 t1040 w _ ?side1 ?side2 A3.out).mono ?_); (case side1 => repeat (first | (with_reducible first | exact HI1037.out | apply IsS107.alloc | apply IsS107.drewN | apply IsS107.drew | apply IsS107.set_1 | apply IsS107.set_2) | exact HI1037.out)); (case side2 => repeat (first | (with_reducible first | exact HB.out | apply below_alloc | apply pw_below_drewN | apply below_drew1 | refine below_set ?_ (IsS107.ge HI1037.out)) | exact HB.out)); rintro e w5 ⟨rfl, hi, hb, hk⟩; refine ⟨_, rfl, ?_⟩; replace HB := Aside0.mk (hb); replace HI1037 := Aside0.mk (hi); (try clear hb); (try clear hb2); (try clear hk); (try clear hi)) | ((with_reducible refine gate_dst (N := 10) rfl ?_); refine Kd.R_lit (Kd.int .i64) _ 3 ?hg (N := 10) ?hd (xs := ([] : List Int)) (inner := []) (ok := fun _ => True) (okp := fun _ => True) ?hr ?hp (fun _ hk => hk) trivial (Below.refl _ _) (Nat.le_refl _) (by simp) ?_; (case hd => rfl); (case hg => rfl); (case hr => first | (go_simp; done) | (go_simp; rfl)); (case hp => exact (Reps.none _ _)); intro v1042 w6 ho7 hb hg_ hnew_; clear hg_ hnew_; (first | rw [← Ny1041.out] at ho7 | (simp only [Int.reduceToNat] at ho7; rw [← Ny1041.out] at ho7)); have HO1043 := Aside0.mk (Kd.R_lower ho7 (below_size (by repeat (first | (with_reducible first | exact HB.out | apply below_alloc | apply pw_below_drewN | apply below_drew1 | refine below_set ?_ (IsS107.ge HI1037.out)) | exact HB.out)))); replace HB := Aside0.mk (below_step (by repeat (first | (with_reducible first | exact HB.out | apply below_alloc | apply pw_below_drewN | apply below_drew1 | refine below_set ?_ (IsS107.ge HI1037.out)) | exact HB.out)) hb); replace HI1037 := Aside0.mk (IsS107.below (by repeat (first | (with_reducible first | exact HI1037.out | apply IsS107.alloc | apply IsS107.drewN | apply IsS107.drew | apply IsS107.set_1 | apply IsS107.set_2) | exact HI1037.out)) hb); clear hb ho7))
 go_loopg [4, 5] k (fun kq v4 v5 w' => ∃ (x4_1 : List Int) (x5_1 : Int) (x1038001_1 : Int) (x1038002_1 : Int), v5 = .int .i64 x5_1 ∧ Aside0 (spec_DrawPlaces.l0 kq x4_1 x5_1 t1034 x1038001_1 x1038002_1 = some r) ∧ Aside0 (kq ≤ k) ∧ Aside0 (Kd.R (Kd.int .i64) 3 w' w.heap.size (fun _ => True) v4 x4_1) ∧ Aside0 (IsS107 w w' g1037 t1034 x1038001_1 x1038002_1) ∧ Aside0 (Below w.heap.size w w'))
 case atStart => exact ⟨(y1041), (0), (t1039), (t1040), (by first | rfl | (simp; done) | (simp [*]; done)), H', ⟨Nat.le_refl _⟩, ⟨by (with_reducible repeat (first | apply Kd.R_alloc | apply Kd.R_drewN | apply Kd.R_drew)); exact HO1043.out⟩, ⟨by repeat (first | (with_reducible first | exact HI1037.out | apply IsS107.alloc | apply IsS107.drewN | apply IsS107.drew | apply IsS107.set_1 | apply IsS107.set_2) | exact HI1037.out)⟩, ⟨by repeat (first | (with_reducible first | exact HB.out | apply below_alloc | apply pw_below_drewN | apply below_drew1 | refine below_set ?_ (IsS107.ge HI1037.out)) | exact HB.out)⟩⟩
 case round =>
  clear H'
  try clear p2
  try clear c3
  try clear c6
  obtain ⟨x4_1, x5_1, x1038001_1, x1038002_1, rfl, HA, HK1, HO_4, HI1037, HB⟩ := hrel
  cases gk with
  | zero => exact absurd HA.out (by simp [spec_DrawPlaces.l0])
  | succ k1 =>
   have H := HA.out
   clear HA
   simp only [spec_DrawPlaces.l0] at H
   by_cases c8 : x5_1 < 12
   ·rw [if_pos c8] at H
    have c8b0 : decide (x5_1 < 12) = true := decide_eq_true c8
    clear c8
    replace H := Option.bind_eq_some_iff.mp H
    obtain ⟨⟨t1044, t1045, t1046⟩, A90, H⟩ := H
    replace H : (if x4_1.length < 17592186044416 then (spec_DrawPlaces.l0 k1 (x4_1 ++ [t1044]) (wrap64 (x5_1 + 1)) t1034 t1045 t1046) else (none)) = some r := H
    have A9 := Aside0.mk A90
    clear A90
    by_cases c10 : x4_1.length < 17592186044416
    ·rw [if_pos c10] at H
     have LMc10 := Aside0.mk c10
     clear c10
     obtain ⟨y1047, hy1047⟩ : ∃ y_ : List Int, y_ = (x4_1 ++ [t1044]) := ⟨_, rfl⟩
     replace H : (spec_DrawPlaces.l0 k1 y1047 (wrap64 (x5_1 + 1)) t1034 t1045 t1046) = some r := by first | (rw [hy1047]; with_reducible exact H) | (have H2_ := (Option.bind_some _ _).symm.trans H; rw [hy1047]; with_reducible exact H2_) | (have H2_ := (Option.bind_some _ _).symm.trans H; with_reducible exact H2_) | with_reducible exact H | (rw [hy1047]; exact H) | exact H
     have Ny1047 := Aside0.mk hy1047
     clear hy1047
     have H' := Aside0.mk H
     clear H
     go_wp2_with (first | ((with_reducible refine gate_callee (f := 80) rfl ?_); refine goesL_ (some 17) rfl rfl Try.func80 (by kernel_rfl) rfl #[.pointer (some ⟨g1037, 0, none⟩), .int .i64 10000] rfl mp_q ?_; (with_reducible refine (spec_l01Below.calls g1037 t1034 x1038001_1 x1038002_1 10000 t1044 t1045 t1046 w _ ?side1 ?side2 A9.out).mono ?_); (case side1 => repeat (first | (with_reducible first | exact HI1037.out | apply IsS107.alloc | apply IsS107.drewN | apply IsS107.drew | apply IsS107.set_1 | apply IsS107.set_2) | exact HI1037.out)); (case side2 => repeat (first | (with_reducible first | exact HB.out | apply below_alloc | apply pw_below_drewN | apply below_drew1 | refine below_set ?_ (IsS107.ge HI1037.out)) | exact HB.out)); rintro e w11 ⟨rfl, hi, hb, hk⟩; refine ⟨_, rfl, ?_⟩; replace HO_4 := Aside0.mk (Kd.R_mono (Kd.R_keep (IsS107.apart (show IsS107 w _ g1037 t1034 x1038001_1 x1038002_1 from by repeat (first | (with_reducible first | exact HI1037.out | apply IsS107.alloc | apply IsS107.drewN | apply IsS107.drew | apply IsS107.set_1 | apply IsS107.set_2) | exact HI1037.out)) (kR_q HO_4) (by decide)) hk (fun _ h => h.2)) (fun _ h => h.1)); replace HB := Aside0.mk (hb); replace HI1037 := Aside0.mk (hi); (try clear hb); (try clear hb2); (try clear hk); (try clear hi)) | ((with_reducible refine gate_builtin (b := .append) (xs := #[.tmp 15, .tmp 18]) rfl ?_); at_builtin; refine Kd.R_append (Kd.int .i64) (w0 := w) w.heap.size rfl (.tmp 15) (.tmp 18) 30 3 (.int .i64 0) 8 rfl Try.underlying30 info3 rfl (by decide) (by omega) u4 x4_1 t1044 [.int .i64 t1044] (fun _ => True) (fun _ => False) rfl rfl ?aP (fun _ hk => hk.elim) ?aF ?aO ?aB ?aS ?aL ?_; (case aP => exact rfl); (case aB => exact (by repeat (first | (with_reducible first | exact HB.out | apply below_alloc | apply pw_below_drewN | apply below_drew1 | refine below_set ?_ (IsS107.ge HI1037.out)) | exact HB.out))); (case aF => exact (fun _ _ => trivial)); (case aO => exact (kR_q HO_4)); (case aS => exact (below_size (by repeat (first | (with_reducible first | exact HB.out | apply below_alloc | apply pw_below_drewN | apply below_drew1 | refine below_set ?_ (IsS107.ge HI1037.out)) | exact HB.out)))); (case aL => have := LMc10.out; omega); intro v1048 w12 ho hb hg hat; rw [← Ny1047.out] at ho; replace HI1037 := Aside0.mk (IsS107.grown (show IsS107 w _ g1037 t1034 t1045 t1046 from by repeat (first | (with_reducible first | exact HI1037.out | apply IsS107.alloc | apply IsS107.drewN | apply IsS107.drew | apply IsS107.set_1 | apply IsS107.set_2) | exact HI1037.out)) hg (IsS107.own_ne HI1037.out HO_4.out (by decide))); replace HB := Aside0.mk (hb); have HO1049 := Aside0.mk (ho); clear HO_4; clear ho hb hg hat))
     go_roundg k1
     case measure => have := HK1.out; omega
     case rel => exact ⟨(y1047), (wrap64 (x5_1 + 1)), (t1045), (t1046), (by first | rfl | (simp; done) | (simp [*]; done)), H', ⟨by have := HK1.out; omega⟩, ⟨by (with_reducible repeat (first | apply Kd.R_alloc | apply Kd.R_drewN | apply Kd.R_drew)); exact HO1049.out⟩, ⟨by repeat (first | (with_reducible first | exact HI1037.out | apply IsS107.alloc | apply IsS107.drewN | apply IsS107.drew | apply IsS107.set_1 | apply IsS107.set_2) | exact HI1037.out)⟩, ⟨by repeat (first | (with_reducible first | exact HB.out | apply below_alloc | apply pw_below_drewN | apply below_drew1 | refine below_set ?_ (IsS107.ge HI1037.out)) | exact HB.out)⟩⟩
    ·rw [if_neg c10] at H
     exact absurd H (by simp)
   ·rw [if_neg c8] at H
    have c8b0 : decide (x5_1 < 12) = false := decide_eq_false c8
    clear c8
    obtain rfl := Option.some.inj H
    go_wp2
    go_ret
    exact ⟨_, er_q, by (with_reducible repeat (first | apply Kd.R_alloc | apply Kd.R_drewN | apply Kd.R_drew)); exact HO_4.out, by repeat (first | (with_reducible first | exact HB.out | apply below_alloc | apply pw_below_drewN | apply below_drew1 | refine below_set ?_ (IsS107.ge HI1037.out)) | exact HB.out)⟩

end Go.Proofs.Ytnecbkognpponaa.Q

/- A Go function as a Lean function, and its contract: for every input the Go code comes to what the Lean function tells. -/

namespace Go.Proofs.Ytnecbkognpponaa.Q
open Go.RowKit Go.Proofs.YtnecbkognpponaaW.PrintWords Go.Proofs.YtnecbkognpponaaW.PrintLast Go.Proofs.YtnecbkognpponaaW.PrintMore
attribute [local go_sem] max2_int min2_int max_two min_two max_three min_three max_four min_four   -- for this text's walks alone
set_option linter.unusedVariables false
set_option linter.unusedSimpArgs false

/-! ### impl_SumMore: function 36 -/
mutual
def impl_SumMore.l0 : Nat → Int → ByteArray → Int → Int → Option (Int)
 | 0, _, _, _, _ => none
 | k + 1, x0, x1, x8, x9 => if x9 < x8 then (if 0 ≤ x9 then (if x9 < (x1.size : Int) then (impl_SumMore.l1 k (Go.bits .xor .u32 x0 ((bt x1 x9) % 4294967296)) x1 x8 x9 0) else (none)) else (none)) else (some x0)
def impl_SumMore.l1 : Nat → Int → ByteArray → Int → Int → Int → Option (Int)
 | 0, _, _, _, _, _ => none
 | k + 1, x0, x1, x8, x9, x18 => if x18 < 8 then (if (Go.bits .and .u32 x0 1) = 1 then (impl_SumMore.l1 k (Go.bits .xor .u32 (x0 / 2) 3558460437) x1 x8 x9 (wrap64 (x18 + 1))) else (impl_SumMore.l1 k (x0 / 2) x1 x8 x9 (wrap64 (x18 + 1)))) else (impl_SumMore.l0 k x0 x1 x8 (wrap64 (x9 + 1)))
end
def impl_SumMore.f (k : Nat) (a0 : Int) (a1 : ByteArray) : Option (Int) := impl_SumMore.l0 k a0 a1 (a1.size : Int) 0
theorem impl_SumMore.mono_l : ∀ k, (∀ y0 y1 y2 y3, LeO (impl_SumMore.l0 k y0 y1 y2 y3) (impl_SumMore.l0 (k + 1) y0 y1 y2 y3)) ∧ (∀ y0 y1 y2 y3 y4, LeO (impl_SumMore.l1 k y0 y1 y2 y3 y4) (impl_SumMore.l1 (k + 1) y0 y1 y2 y3 y4))
 | 0 => ⟨fun _ _ _ _ r h => by simp [impl_SumMore.l0] at h, fun _ _ _ _ _ r h => by simp [impl_SumMore.l1] at h⟩
 | k + 1 => by
  obtain ⟨ih0, ih1⟩ := impl_SumMore.mono_l k
  refine ⟨?_, ?_⟩
  ·intro y0 y1 y2 y3
   unfold impl_SumMore.l0
   repeat' first
   | (with_reducible exact ih0 _ _ _ _)
   | (with_reducible exact ih1 _ _ _ _ _)
   | (with_reducible exact LeO.refl _)
   | (with_reducible exact LeO.none _)
   | (with_reducible refine LeO.ite ?_ ?_)
   | (with_reducible refine LeO.bind ?_ (fun _ => ?_))
   | exact ih0 _ _ _ _
   | exact ih1 _ _ _ _ _
   | exact LeO.none _
   | refine LeO.ite ?_ ?_
   | refine LeO.bind ?_ (fun _ => ?_)
  ·intro y0 y1 y2 y3 y4
   unfold impl_SumMore.l1
   repeat' first
   | (with_reducible exact ih0 _ _ _ _)
   | (with_reducible exact ih1 _ _ _ _ _)
   | (with_reducible exact LeO.refl _)
   | (with_reducible exact LeO.none _)
   | (with_reducible refine LeO.ite ?_ ?_)
   | (with_reducible refine LeO.bind ?_ (fun _ => ?_))
   | exact ih0 _ _ _ _
   | exact ih1 _ _ _ _ _
   | exact LeO.none _
   | refine LeO.ite ?_ ?_
   | refine LeO.bind ?_ (fun _ => ?_)
theorem impl_SumMore.mono : ∀ a0 a1 k, LeO (impl_SumMore.f k a0 a1) (impl_SumMore.f (k + 1) a0 a1) := by
 intro a0 a1 k
 obtain ⟨ih0, ih1⟩ := impl_SumMore.mono_l k
 unfold impl_SumMore.f
 repeat' first
   | (with_reducible exact ih0 _ _ _ _)
   | (with_reducible exact ih1 _ _ _ _ _)
   | (with_reducible exact LeO.refl _)
   | (with_reducible exact LeO.none _)
   | (with_reducible refine LeO.ite ?_ ?_)
   | (with_reducible refine LeO.bind ?_ (fun _ => ?_))
   | exact ih0 _ _ _ _
   | exact ih1 _ _ _ _ _
   | exact LeO.none _
   | refine LeO.ite ?_ ?_
   | refine LeO.bind ?_ (fun _ => ?_)
set_option maxHeartbeats 8000000 in
set_option maxRecDepth 100000 in
theorem impl_SumMore.calls (k : Nat) (a0 : Int) (a1 : ByteArray) (r : Int) (w : World) (h : impl_SumMore.f k a0 a1 = some r) :
  Calls Try.prog 36 #[.int .u32 a0, .string a1] w fun e w' => e = .returned (.int .u32 r) ∧ Drawn0 w w' := by
 have H : (impl_SumMore.l0 k a0 a1 (a1.size : Int) 0) = some r := h
 clear h
 have H' := Aside0.mk H
 clear H
 go_enter Try.func36, Try.ntmps36
 go_wp2
 go_loopg [0, 9] k (fun kq v0 v9 w' => ∃ (x0_1 : Int) (x9_1 : Int), v0 = .int .u32 x0_1 ∧ v9 = .int .i64 x9_1 ∧ Aside0 (impl_SumMore.l0 kq x0_1 a1 (a1.size : Int) x9_1 = some r) ∧ Aside0 (kq ≤ k) ∧ Drawn0 w w')
 case atStart => exact ⟨(a0), (0), (by first | rfl | (simp; done) | (simp [*]; done)), (by first | rfl | (simp; done) | (simp [*]; done)), H', ⟨Nat.le_refl _⟩, by repeat (first | exact Drawn0.refl _ | apply Drawn0.step)⟩
 case round =>
  clear H'
  try clear p2
  obtain ⟨x0_1, x9_1, rfl, rfl, HA, HK1, ⟨m1, rfl⟩⟩ := hrel
  cases gk with
  | zero => exact absurd HA.out (by simp [impl_SumMore.l0])
  | succ k1 =>
   have H := HA.out
   clear HA
   simp only [impl_SumMore.l0] at H
   by_cases c3 : x9_1 < (a1.size : Int)
   ·rw [if_pos c3] at H
    have c3b0 : decide (x9_1 < (a1.size : Int)) = true := decide_eq_true c3
    clear c3
    by_cases c4 : 0 ≤ x9_1
    ·rw [if_pos c4] at H
     have c4b0 : decide (0 ≤ x9_1) = true := decide_eq_true c4
     clear c4
     by_cases c5 : x9_1 < (a1.size : Int)
     ·rw [if_pos c5] at H
      have c5b0 : decide (x9_1 < (a1.size : Int)) = true := decide_eq_true c5
      clear c5
      have H' := Aside0.mk H
      clear H
      have p6 : 0 ≤ (x9_1 : Int) := of_decide_eq_true as_q
      have q6 : x9_1 < (a1.size : Int) := of_decide_eq_true as_q
      have hx6 := bt_at a1 x9_1
      replace p6 := eq_true p6
      replace q6 := eq_true q6
      go_wp2
      go_loopg [0, 18] k1 (fun kq v0 v18 w' => ∃ (x0_2 : Int) (x18_2 : Int), v0 = .int .u32 x0_2 ∧ v18 = .int .i64 x18_2 ∧ Aside0 (impl_SumMore.l1 kq x0_2 a1 (a1.size : Int) x9_1 x18_2 = some r) ∧ Aside0 (kq ≤ k1) ∧ Drawn0 w w')
      case atStart => exact ⟨(Go.bits .xor .u32 x0_1 ((bt a1 x9_1) % 4294967296)), (0), (by first | rfl | (simp; done) | (simp [*]; done)), (by first | rfl | (simp; done) | (simp [*]; done)), H', ⟨Nat.le_refl _⟩, by repeat (first | exact Drawn0.refl _ | apply Drawn0.step)⟩
      case round =>
       clear H'
       try clear p2
       try clear c3
       try clear c3b0
       try clear c4
       try clear c4b0
       try clear c5
       try clear c5b0
       try clear p6
       try clear q6
       try clear hx6
       try clear p2
       try clear p6
       try clear q6
       obtain ⟨x0_2, x18_2, rfl, rfl, HA, HK2, ⟨m2, rfl⟩⟩ := hrel
       cases gk with
       | zero => exact absurd HA.out (by simp [impl_SumMore.l1])
       | succ k2 =>
        have H := HA.out
        clear HA
        simp only [impl_SumMore.l1] at H
        by_cases c7 : x18_2 < 8
        ·rw [if_pos c7] at H
         have c7b0 : decide (x18_2 < 8) = true := decide_eq_true c7
         clear c7
         by_cases c8 : (Go.bits .and .u32 x0_2 1) = 1
         ·rw [if_pos c8] at H
          have c8b0 : ((Go.bits .and .u32 x0_2 1) == 1) = true := beq_iff_eq.mpr c8
          have c8b1 : ((Go.bits .and .u32 x0_2 1) != 1) = false := bne_eq_false_iff_eq.mpr c8
          clear c8
          have H' := Aside0.mk H
          clear H
          go_wp2
          go_roundg k2
          case measure => have := HK1.out; have := HK2.out; omega
          case rel => exact ⟨(Go.bits .xor .u32 (x0_2 / 2) 3558460437), (wrap64 (x18_2 + 1)), (by first | rfl | (simp; done) | (simp [*]; done)), (by first | rfl | (simp; done) | (simp [*]; done)), H', ⟨by have := HK1.out; have := HK2.out; omega⟩, by repeat (first | exact Drawn0.refl _ | apply Drawn0.step)⟩
         ·rw [if_neg c8] at H
          have c8b0 : ((Go.bits .and .u32 x0_2 1) == 1) = false := beq_eq_false_iff_ne.mpr c8
          have c8b1 : ((Go.bits .and .u32 x0_2 1) != 1) = true := bne_iff_ne.mpr c8
          have H' := Aside0.mk H
          clear H
          go_wp2
          go_roundg k2
          case measure => have := HK1.out; have := HK2.out; omega
          case rel => exact ⟨(x0_2 / 2), (wrap64 (x18_2 + 1)), (by first | rfl | (simp; done) | (simp [*]; done)), (by first | rfl | (simp; done) | (simp [*]; done)), H', ⟨by have := HK1.out; have := HK2.out; omega⟩, by repeat (first | exact Drawn0.refl _ | apply Drawn0.step)⟩
        ·rw [if_neg c7] at H
         have c7b0 : decide (x18_2 < 8) = false := decide_eq_false c7
         clear c7
         have H' := Aside0.mk H
         clear H
         go_wp2
         go_roundg k2
         case measure => have := HK1.out; have := HK2.out; omega
         case rel => exact ⟨(x0_2), (wrap64 (x9_1 + 1)), (by first | rfl | (simp; done) | (simp [*]; done)), (by first | rfl | (simp; done) | (simp [*]; done)), H', ⟨by have := HK1.out; have := HK2.out; omega⟩, by repeat (first | exact Drawn0.refl _ | apply Drawn0.step)⟩
     ·rw [if_neg c5] at H
      exact absurd H (by simp)
    ·rw [if_neg c4] at H
     exact absurd H (by simp)
   ·rw [if_neg c3] at H
    have c3b0 : decide (x9_1 < (a1.size : Int)) = false := decide_eq_false c3
    clear c3
    obtain rfl := Option.some.inj H
    go_wp2
    go_ret
    exact ⟨by first | rfl | (simp; done) | (simp [*]; done), by repeat (first | exact Drawn0.refl _ | apply Drawn0.step)⟩

end Go.Proofs.Ytnecbkognpponaa.Q

/- A Go function as a Lean function, and its contract: for every input the Go code comes to what the Lean function tells. -/


namespace Go.Proofs.Ytnecbkognpponaa.Q
open Go.RowKit Go.Proofs.YtnecbkognpponaaW.PrintWords Go.Proofs.YtnecbkognpponaaW.PrintLast Go.Proofs.YtnecbkognpponaaW.PrintMore
attribute [local go_sem] max2_int min2_int max_two min_two max_three min_three max_four min_four   -- for this text's walks alone
set_option linter.unusedVariables false
set_option linter.unusedSimpArgs false

/-! ### impl_SumOf: function 37 -/
def impl_SumOf.f (k : Nat) (a0 : ByteArray) : Option (Int) := (impl_SumMore.f k 4294967295 a0).bind fun t537 => (some t537)
theorem impl_SumOf.mono : ∀ a0 k, LeO (impl_SumOf.f k a0) (impl_SumOf.f (k + 1) a0) := by
 intro a0 k
 unfold impl_SumOf.f
 repeat' first
   | (with_reducible exact impl_SumMore.mono _ _ _)
   | (with_reducible exact LeO.refl _)
   | (with_reducible exact LeO.none _)
   | (with_reducible refine LeO.ite ?_ ?_)
   | (with_reducible refine LeO.bind ?_ (fun _ => ?_))
   | exact impl_SumMore.mono _ _ _
   | exact LeO.none _
   | refine LeO.ite ?_ ?_
   | refine LeO.bind ?_ (fun _ => ?_)
set_option maxHeartbeats 8000000 in
set_option maxRecDepth 100000 in
theorem impl_SumOf.calls (k : Nat) (a0 : ByteArray) (r : Int) (w : World) (h : impl_SumOf.f k a0 = some r) :
  Calls Try.prog 37 #[.string a0] w fun e w' => e = .returned (.int .u32 r) ∧ Drawn0 w w' := by
 have H : ((impl_SumMore.f k 4294967295 a0).bind fun t537 => (some t537)) = some r := h
 clear h
 replace H := Option.bind_eq_some_iff.mp H
 obtain ⟨t537, A20, H⟩ := H
 replace H : (some t537) = some r := H
 have A2 := Aside0.mk A20
 clear A20
 obtain rfl := Option.some.inj H
 go_enter Try.func37, Try.ntmps37
 go_wp2_with (first | ((with_reducible refine gate_callee (f := 36) rfl ?_); refine goesL_ (some 4) rfl rfl Try.func36 (by kernel_rfl) rfl #[.int .u32 4294967295, .string a0] rfl mp_q ?_; (with_reducible refine (impl_SumMore.calls k 4294967295 a0 t537 _ A2.out).mono ?_); rintro e w' ⟨rfl, ⟨nd, rfl⟩⟩; refine ⟨_, rfl, ?_⟩))
 go_ret
 exact ⟨by first | rfl | (simp; done) | (simp [*]; done), by repeat (first | exact Drawn0.refl _ | apply Drawn0.step)⟩

end Go.Proofs.Ytnecbkognpponaa.Q

/- A Go function as a Lean function, and its contract: for every input the Go code comes to what the Lean function tells. -/


namespace Go.Proofs.Ytnecbkognpponaa.Q
open Go.RowKit Go.Proofs.YtnecbkognpponaaW.PrintWords Go.Proofs.YtnecbkognpponaaW.PrintLast Go.Proofs.YtnecbkognpponaaW.PrintMore
attribute [local go_sem] max2_int min2_int max_two min_two max_three min_three max_four min_four   -- for this text's walks alone
set_option linter.unusedVariables false
set_option linter.unusedSimpArgs false

/-! ### impl_Sealed: function 34 -/
def impl_Sealed.f (k : Nat) (a0 : ByteArray) : Option (ByteArray × Bool) := if (a0.size : Int) > 20000 then (some ((⟨#[]⟩ : ByteArray), false)) else ((impl_SumOf.f k a0).bind fun t538 => ((some (([(t538 / 16777216) % 256, (t538 / 65536) % 256, (t538 / 256) % 256, (t538) % 256] : List Int) : List Int)).bind fun y539 => (if a0.size + (strOfNums y539).size ≤ 9223372036854775807 then (some (a0 ++ (strOfNums y539), true)) else (none))))
theorem impl_Sealed.mono : ∀ a0 k, LeO (impl_Sealed.f k a0) (impl_Sealed.f (k + 1) a0) := by
 intro a0 k
 unfold impl_Sealed.f
 repeat' first
   | (with_reducible exact impl_SumOf.mono _ _)
   | (with_reducible exact LeO.refl _)
   | (with_reducible exact LeO.none _)
   | (with_reducible refine LeO.ite ?_ ?_)
   | (with_reducible refine LeO.bind ?_ (fun _ => ?_))
   | exact impl_SumOf.mono _ _
   | exact LeO.none _
   | refine LeO.ite ?_ ?_
   | refine LeO.bind ?_ (fun _ => ?_)
set_option maxHeartbeats 8000000 in
set_option maxRecDepth 100000 in
theorem impl_Sealed.calls (k : Nat) (a0 : ByteArray) (r1 : ByteArray) (r2 : Bool) (w : World) (h : impl_Sealed.f k a0 = some (r1, r2)) :
  Calls Try.prog 34 #[.string a0] w fun e w' => e = .returned (.tuple #[.string r1, .bool r2]) ∧ Below w.heap.size w w' := by
 have HB := Aside0.mk (Below.refl w.heap.size w)
 have H : (if (a0.size : Int) > 20000 then (some ((⟨#[]⟩ : ByteArray), false)) else ((impl_SumOf.f k a0).bind fun t538 => ((some (([(t538 / 16777216) % 256, (t538 / 65536) % 256, (t538 / 256) % 256, (t538) % 256] : List Int) : List Int)).bind fun y539 => (if a0.size + (strOfNums y539).size ≤ 9223372036854775807 then (some (a0 ++ (strOfNums y539), true)) else (none))))) = some (r1, r2) := h
 clear h
 by_cases c2 : (a0.size : Int) > 20000
 ·rw [if_pos c2] at H
  have c2b0 : decide (20000 < (a0.size : Int)) = true := decide_eq_true c2
  have c2b1 : decide (20000 < a0.size) = true := decide_eq_true (by omega)
  clear c2
  simp only [Option.some.injEq, Prod.mk.injEq] at H
  obtain ⟨rfl, rfl⟩ := H
  go_enter Try.func34, Try.ntmps34
  go_wp2
  go_ret2
  exact ⟨er_q, bw_q HB⟩
 ·rw [if_neg c2] at H
  have c2b0 : decide (20000 < (a0.size : Int)) = false := decide_eq_false c2
  have c2b1 : decide (20000 < a0.size) = false := decide_eq_false (by omega)
  clear c2
  replace H := Option.bind_eq_some_iff.mp H
  obtain ⟨t538, A30, H⟩ := H
  replace H : ((some (([(t538 / 16777216) % 256, (t538 / 65536) % 256, (t538 / 256) % 256, (t538) % 256] : List Int) : List Int)).bind fun y539 => (if a0.size + (strOfNums y539).size ≤ 9223372036854775807 then (some (a0 ++ (strOfNums y539), true)) else (none))) = some (r1, r2) := H
  have A3 := Aside0.mk A30
  clear A30
  obtain ⟨y539, hy539⟩ : ∃ y_ : List Int, y_ = (([(t538 / 16777216) % 256, (t538 / 65536) % 256, (t538 / 256) % 256, (t538) % 256] : List Int)) := ⟨_, rfl⟩
  replace H : (if a0.size + (strOfNums y539).size ≤ 9223372036854775807 then (some (a0 ++ (strOfNums y539), true)) else (none)) = some (r1, r2) := by first | (rw [hy539]; with_reducible exact H) | (have H2_ := (Option.bind_some _ _).symm.trans H; rw [hy539]; with_reducible exact H2_) | (have H2_ := (Option.bind_some _ _).symm.trans H; with_reducible exact H2_) | with_reducible exact H | (rw [hy539]; exact H) | exact H
  have Ny539 := Aside0.mk hy539
  clear hy539
  by_cases c4 : a0.size + (strOfNums y539).size ≤ 9223372036854775807
  ·rw [if_pos c4] at H
   have c4b0 := eq_true c4
   have c4b1 : decide (a0.size + (strOfNums y539).size ≤ 9223372036854775807) = true := decide_eq_true c4
   try have c4b2 : (9223372036854775807 < a0.size + (strOfNums y539).size) = False := eq_false (Nat.not_lt.2 c4)
   try (have c4b3 := c4b2; simp only [ByteArray.size_append] at c4b3)
   simp only [Option.some.injEq, Prod.mk.injEq] at H
   obtain ⟨rfl, rfl⟩ := H
   go_enter Try.func34, Try.ntmps34
   go_wp2_with (first | ((with_reducible refine gate_callee (f := 37) rfl ?_); refine goesL_ (some 9) rfl rfl Try.func37 (by kernel_rfl) rfl #[.string a0] rfl mp_q ?_; (with_reducible refine (impl_SumOf.calls k a0 t538 _ A3.out).mono ?_); rintro e w' ⟨rfl, ⟨nd, rfl⟩⟩; refine ⟨_, rfl, ?_⟩) | ((with_reducible refine gate_dst (N := 22) rfl ?_); refine Kd.R_lit (Kd.int .u8) _ 5 ?hg (N := 22) ?hd (xs := ([(t538 / 16777216) % 256, (t538 / 65536) % 256, (t538 / 256) % 256, (t538) % 256] : List Int)) (inner := [.int .u8 ((t538 / 16777216) % 256), .int .u8 ((t538 / 65536) % 256), .int .u8 ((t538 / 256) % 256), .int .u8 ((t538) % 256)]) (ok := fun _ => True) (okp := fun _ => True) ?hr ?hp (fun _ hk => hk) trivial (Below.refl _ _) (Nat.le_refl _) (by simp) ?_; (case hd => rfl); (case hg => rfl); (case hr => first | (go_simp; done) | (go_simp; rfl)); (case hp => exact (Reps.one (show Kd.M (Kd.int .u8) _ _ _ ((t538 / 16777216) % 256) [.int .u8 ((t538 / 16777216) % 256)] from rfl) (Reps.one (show Kd.M (Kd.int .u8) _ _ _ ((t538 / 65536) % 256) [.int .u8 ((t538 / 65536) % 256)] from rfl) (Reps.one (show Kd.M (Kd.int .u8) _ _ _ ((t538 / 256) % 256) [.int .u8 ((t538 / 256) % 256)] from rfl) (Reps.one (show Kd.M (Kd.int .u8) _ _ _ ((t538) % 256) [.int .u8 ((t538) % 256)] from rfl) (Reps.none _ _)))))); intro v540 w5 ho6 hb hg_ hnew_; clear hg_ hnew_; (first | rw [← Ny539.out] at ho6 | (simp only [Int.reduceToNat] at ho6; rw [← Ny539.out] at ho6)); have HO541 := Aside0.mk (Kd.R_lower ho6 (below_size (bw_q HB))); replace HB := Aside0.mk (below_step (bw_q HB) hb); clear hb ho6; have hcv7 := own_string (P := Try.prog) Try.underlying46 Try.underlying5 Try.underlying9 (Kd.own_of_R HO541.out)))
   go_ret2
   exact ⟨er_q, bw_q HB⟩
  ·rw [if_neg c4] at H
   exact absurd H (by simp)

end Go.Proofs.Ytnecbkognpponaa.Q

/- A Go function as a Lean function, and its contract: for every input the Go code comes to what the Lean function tells. -/


namespace Go.Proofs.Ytnecbkognpponaa.Q
open Go.RowKit Go.Proofs.YtnecbkognpponaaW.PrintWords Go.Proofs.YtnecbkognpponaaW.PrintLast Go.Proofs.YtnecbkognpponaaW.PrintMore
attribute [local go_sem] max2_int min2_int max_two min_two max_three min_three max_four min_four   -- for this text's walks alone
set_option linter.unusedVariables false
set_option linter.unusedSimpArgs false

/-! ### impl_Unsealed: function 35 -/
def impl_Unsealed.f (k : Nat) (a0 : ByteArray) : Option (ByteArray × Bool) := if (a0.size : Int) < 4 then (some ((⟨#[]⟩ : ByteArray), false)) else (if 0 ≤ (wrap64 ((a0.size : Int) - 4)) then (if (wrap64 ((a0.size : Int) - 4)) ≤ (a0.size : Int) then ((impl_Sealed.f k (a0.extract 0 ((wrap64 ((a0.size : Int) - 4)) : Int).toNat)).bind fun bt647 => (if bt647.2 = true then (if bt647.1.toList = a0.toList then (some (a0.extract 0 ((wrap64 ((a0.size : Int) - 4)) : Int).toNat, true)) else (some ((⟨#[]⟩ : ByteArray), false))) else (some ((⟨#[]⟩ : ByteArray), false)))) else (none)) else (none))
theorem impl_Unsealed.mono : ∀ a0 k, LeO (impl_Unsealed.f k a0) (impl_Unsealed.f (k + 1) a0) := by
 intro a0 k
 unfold impl_Unsealed.f
 repeat' first
   | (with_reducible exact impl_Sealed.mono _ _)
   | (with_reducible exact LeO.refl _)
   | (with_reducible exact LeO.none _)
   | (with_reducible refine LeO.ite ?_ ?_)
   | (with_reducible refine LeO.bind ?_ (fun _ => ?_))
   | exact impl_Sealed.mono _ _
   | exact LeO.none _
   | refine LeO.ite ?_ ?_
   | refine LeO.bind ?_ (fun _ => ?_)
set_option maxHeartbeats 8000000 in
set_option maxRecDepth 100000 in
theorem impl_Unsealed.calls (k : Nat) (a0 : ByteArray) (r1 : ByteArray) (r2 : Bool) (w : World) (h : impl_Unsealed.f k a0 = some (r1, r2)) :
  Calls Try.prog 35 #[.string a0] w fun e w' => e = .returned (.tuple #[.string r1, .bool r2]) ∧ Below w.heap.size w w' := by
 have HB := Aside0.mk (Below.refl w.heap.size w)
 have H : (if (a0.size : Int) < 4 then (some ((⟨#[]⟩ : ByteArray), false)) else (if 0 ≤ (wrap64 ((a0.size : Int) - 4)) then (if (wrap64 ((a0.size : Int) - 4)) ≤ (a0.size : Int) then ((impl_Sealed.f k (a0.extract 0 ((wrap64 ((a0.size : Int) - 4)) : Int).toNat)).bind fun bt647 => (if bt647.2 = true then (if bt647.1.toList = a0.toList then (some (a0.extract 0 ((wrap64 ((a0.size : Int) - 4)) : Int).toNat, true)) else (some ((⟨#[]⟩ : ByteArray), false))) else (some ((⟨#[]⟩ : ByteArray), false)))) else (none)) else (none))) = some (r1, r2) := h
 clear h
 by_cases c2 : (a0.size : Int) < 4
 ·rw [if_pos c2] at H
  have c2b0 : decide ((a0.size : Int) < 4) = true := decide_eq_true c2
  have c2b1 : decide (a0.size < 4) = true := decide_eq_true (by omega)
  clear c2
  simp only [Option.some.injEq, Prod.mk.injEq] at H
  obtain ⟨rfl, rfl⟩ := H
  go_enter Try.func35, Try.ntmps35
  go_wp2
  go_ret2
  exact ⟨er_q, bw_q HB⟩
 ·rw [if_neg c2] at H
  have c2b0 : decide ((a0.size : Int) < 4) = false := decide_eq_false c2
  have c2b1 : decide (a0.size < 4) = false := decide_eq_false (by omega)
  clear c2
  obtain ⟨ji3, hji3⟩ : ∃ j_ : Int, (wrap64 ((a0.size : Int) - 4)) = j_ := ⟨_, rfl⟩
  replace H : (if 0 ≤ (ji3) then (if (ji3) ≤ (a0.size : Int) then ((impl_Sealed.f k (a0.extract 0 ((ji3) : Int).toNat)).bind fun bt647 => (if bt647.2 = true then (if bt647.1.toList = a0.toList then (some (a0.extract 0 ((ji3) : Int).toNat, true)) else (some ((⟨#[]⟩ : ByteArray), false))) else (some ((⟨#[]⟩ : ByteArray), false)))) else (none)) else (none)) = some (r1, r2) := by first | (rw [hji3] at H; exact H) | (simp only [hji3] at H ⊢; exact H)
  have hji3w : (IntKind.i64.wrap ((a0.size : Int) - 4)) = ji3 := (i64_w _).trans hji3
  by_cases c4 : 0 ≤ (ji3)
  ·rw [if_pos c4] at H
   have c4b0 := eq_true c4
   have c4b1 : decide (0 ≤ (ji3)) = true := decide_eq_true c4
   clear c4
   by_cases c5 : (ji3) ≤ (a0.size : Int)
   ·rw [if_pos c5] at H
    have c5b0 := eq_true c5
    have c5b1 : decide ((ji3) ≤ (a0.size : Int)) = true := decide_eq_true c5
    clear c5
    replace H := Option.bind_eq_some_iff.mp H
    obtain ⟨⟨t647, t648⟩, A60, H⟩ := H
    replace H : (if t648 = true then (if t647.toList = a0.toList then (some (a0.extract 0 ((ji3) : Int).toNat, true)) else (some ((⟨#[]⟩ : ByteArray), false))) else (some ((⟨#[]⟩ : ByteArray), false))) = some (r1, r2) := H
    have A6 := Aside0.mk A60
    clear A60
    by_cases c7 : t648 = true
    ·subst c7
     have H1 : (if t647.toList = a0.toList then (some (a0.extract 0 ((ji3) : Int).toNat, true)) else (some ((⟨#[]⟩ : ByteArray), false))) = some (r1, r2) := by rw [if_pos rfl] at H; exact H
     clear H
     have H := H1
     clear H1
     have HC8 := Aside0.mk H
     clear H
     go_enter Try.func35, Try.ntmps35
     go_upto_if 26 with (first | ((with_reducible refine gate_callee (f := 34) rfl ?_); refine goesL_ (some 17) rfl rfl Try.func34 (by kernel_rfl) rfl #[.string (a0.extract 0 ((ji3) : Int).toNat)] rfl (by (try simp only [List.map_toArray, List.map_cons, List.map_nil]); first | done | (simp only [hji3]; rfl) | rfl | (simp only [List.length_drop, List.length_take]; rfl)) ?_; (with_reducible refine (impl_Sealed.calls k (a0.extract 0 ((ji3) : Int).toNat) t647 true _ A6.out).mono ?_); rintro e w9 ⟨rfl, hb⟩; refine ⟨_, rfl, ?_⟩; replace HB := Aside0.mk (below_step (bw_q HB) hb); (try clear hb); (try clear hb2); (try clear hk); (try clear hi)))
     have H := HC8.out
     clear HC8
     by_cases c10 : t647.toList = a0.toList
     ·rw [if_pos c10] at H
      have c10b0 : (t647.toList == a0.toList) = true := beq_iff_eq.mpr c10
      have c10b1 : (t647.toList != a0.toList) = false := bne_eq_false_iff_eq.mpr c10
      clear c10
      (first | rw [c10b0] | rw [c10b1] | (simp only [i64_w, i32_w]; first | rw [c10b0] | rw [c10b1]) | skip)
      simp only [Option.some.injEq, Prod.mk.injEq] at H
      obtain ⟨rfl, rfl⟩ := H
      go_wp2
      go_ret2
      exact ⟨by first | rfl | (simp [errW_none, errW_some] <;> rfl) | (simp only [← hji3]; first | rfl | (simp [errW_none, errW_some] <;> rfl)) | (simp [*, errW_none, errW_some] <;> rfl), bw_q HB⟩
     ·rw [if_neg c10] at H
      have c10b0 : (t647.toList == a0.toList) = false := beq_eq_false_iff_ne.mpr c10
      have c10b1 : (t647.toList != a0.toList) = true := bne_iff_ne.mpr c10
      (first | rw [c10b0] | rw [c10b1] | (simp only [i64_w, i32_w]; first | rw [c10b0] | rw [c10b1]) | skip)
      simp only [Option.some.injEq, Prod.mk.injEq] at H
      obtain ⟨rfl, rfl⟩ := H
      go_wp2
      go_ret2
      exact ⟨by first | rfl | (simp [errW_none, errW_some] <;> rfl) | (simp only [← hji3]; first | rfl | (simp [errW_none, errW_some] <;> rfl)) | (simp [*, errW_none, errW_some] <;> rfl), bw_q HB⟩
    ·replace c7 := Bool.eq_false_iff.mpr c7
     subst c7
     have H1 : (some ((⟨#[]⟩ : ByteArray), false)) = some (r1, r2) := by rw [if_neg (show ¬ (false = true) by decide)] at H; exact H
     clear H
     have H := H1
     clear H1
     simp only [Option.some.injEq, Prod.mk.injEq] at H
     obtain ⟨rfl, rfl⟩ := H
     go_enter Try.func35, Try.ntmps35
     go_wp2_with (first | ((with_reducible refine gate_callee (f := 34) rfl ?_); refine goesL_ (some 17) rfl rfl Try.func34 (by kernel_rfl) rfl #[.string (a0.extract 0 ((ji3) : Int).toNat)] rfl (by (try simp only [List.map_toArray, List.map_cons, List.map_nil]); first | done | (simp only [hji3]; rfl) | rfl | (simp only [List.length_drop, List.length_take]; rfl)) ?_; (with_reducible refine (impl_Sealed.calls k (a0.extract 0 ((ji3) : Int).toNat) t647 false _ A6.out).mono ?_); rintro e w11 ⟨rfl, hb⟩; refine ⟨_, rfl, ?_⟩; replace HB := Aside0.mk (below_step (bw_q HB) hb); (try clear hb); (try clear hb2); (try clear hk); (try clear hi)))
     go_ret2
     exact ⟨by first | rfl | (simp [errW_none, errW_some] <;> rfl) | (simp only [← hji3]; first | rfl | (simp [errW_none, errW_some] <;> rfl)) | (simp [*, errW_none, errW_some] <;> rfl), bw_q HB⟩
   ·rw [if_neg c5] at H
    exact absurd H (by simp)
  ·rw [if_neg c4] at H
   exact absurd H (by simp)

end Go.Proofs.Ytnecbkognpponaa.Q

/- A Go function as a Lean function, and its contract: for every input the Go code comes to what the Lean function tells. -/








namespace Go.Proofs.Ytnecbkognpponaa.Q
open Go.RowKit Go.Proofs.YtnecbkognpponaaW.PrintWords Go.Proofs.YtnecbkognpponaaW.PrintLast Go.Proofs.YtnecbkognpponaaW.PrintMore
attribute [local go_sem] max2_int min2_int max_two min_two max_three min_three max_four min_four   -- for this text's walks alone
set_option linter.unusedVariables false
set_option linter.unusedSimpArgs false

/-! ### laws_FnTurned: function 8 -/
def laws_FnTurned.j0 : Nat → ByteArray → List Int → ByteArray → Bool → Option (Bool)
 | 0, _, _, _, _ => none
 | k + 1, x3, x4, x5, x47 => if x47 = true then (some false) else (if 0 ≤ (x5.size : Int) then (if ((x5.size : Int) : Int).toNat ≤ 281474976710656 then ((some (bytesOf x5 : List Int)).bind fun y171 => (if 0 < (x4.length : Int) then (if (y171.length : Int) = 0 then (none) else (if 0 ≤ (Int.tmod (rd x4 0) (y171.length : Int)) then (if (Int.tmod (rd x4 0) (y171.length : Int)) < (y171.length : Int) then (if 1 < (x4.length : Int) then ((impl_Unsealed.f k (strOfNums (y171.set ((Int.tmod (rd x4 0) (y171.length : Int)) : Int).toNat (Go.bits .xor .u8 (rd y171 (Int.tmod (rd x4 0) (y171.length : Int))) ((wrap64 (1 + (Int.tmod (rd x4 1) 255))) % 256))))).bind fun bt178 => (if bt178.2 = true then (some false) else ((impl_SumOf.f k x3).bind fun t180 => ((impl_SumMore.f k t180 (⟨#[120]⟩ : ByteArray)).bind fun t181 => (if x3.size + 1 ≤ 9223372036854775807 then ((impl_SumOf.f k (x3 ++ (⟨#[120]⟩ : ByteArray))).bind fun t182 => (some (t181 == t182))) else (none)))))) else (none)) else (none)) else (none))) else (none))) else (none)) else (none))
def laws_FnTurned.f (k : Nat) (l0 : List Int) : Option (Bool) := (laws_big.f l0).bind fun t162 => (if t162 = true then (some true) else ((spec_DrawSumOf.f k l0).bind fun t163 => ((spec_DrawPlaces.f k l0).bind fun t164 => ((impl_Sealed.f k t163).bind fun bt167 => ((impl_Unsealed.f k bt167.1).bind fun bt169 => (if bt167.2 = true then (if bt169.2 = true then (if bt169.1.toList = t163.toList then (laws_FnTurned.j0 k t163 t164 bt167.1 ((bt167.1.size : Int) != (wrap64 ((t163.size : Int) + 4)))) else (laws_FnTurned.j0 k t163 t164 bt167.1 true)) else (laws_FnTurned.j0 k t163 t164 bt167.1 true)) else (laws_FnTurned.j0 k t163 t164 bt167.1 true)))))))
theorem laws_FnTurned.mono_l : ∀ k, (∀ y0 y1 y2 y3, LeO (laws_FnTurned.j0 k y0 y1 y2 y3) (laws_FnTurned.j0 (k + 1) y0 y1 y2 y3))
 | 0 => fun _ _ _ _ r h => by simp [laws_FnTurned.j0] at h
 | k + 1 => by
  have ih0 := laws_FnTurned.mono_l k
  ·intro y0 y1 y2 y3
   unfold laws_FnTurned.j0
   repeat' first
   | (with_reducible exact ih0 _ _ _ _)
   | (with_reducible exact impl_Sealed.mono _ _)
   | (with_reducible exact impl_SumMore.mono _ _ _)
   | (with_reducible exact impl_SumOf.mono _ _)
   | (with_reducible exact impl_Unsealed.mono _ _)
   | (with_reducible exact spec_DrawPlaces.mono _ _)
   | (with_reducible exact spec_DrawSumOf.mono _ _)
   | (with_reducible exact LeO.refl _)
   | (with_reducible exact LeO.none _)
   | (with_reducible refine LeO.ite ?_ ?_)
   | (with_reducible refine LeO.bind ?_ (fun _ => ?_))
   | exact ih0 _ _ _ _
   | exact impl_Sealed.mono _ _
   | exact impl_SumMore.mono _ _ _
   | exact impl_SumOf.mono _ _
   | exact impl_Unsealed.mono _ _
   | exact spec_DrawPlaces.mono _ _
   | exact spec_DrawSumOf.mono _ _
   | exact LeO.none _
   | refine LeO.ite ?_ ?_
   | refine LeO.bind ?_ (fun _ => ?_)
theorem laws_FnTurned.mono : ∀ a0 k, LeO (laws_FnTurned.f k a0) (laws_FnTurned.f (k + 1) a0) := by
 intro a0 k
 have ih0 := laws_FnTurned.mono_l k
 unfold laws_FnTurned.f
 repeat' first
   | (with_reducible exact ih0 _ _ _ _)
   | (with_reducible exact impl_Sealed.mono _ _)
   | (with_reducible exact impl_SumMore.mono _ _ _)
   | (with_reducible exact impl_SumOf.mono _ _)
   | (with_reducible exact impl_Unsealed.mono _ _)
   | (with_reducible exact spec_DrawPlaces.mono _ _)
   | (with_reducible exact spec_DrawSumOf.mono _ _)
   | (with_reducible exact LeO.refl _)
   | (with_reducible exact LeO.none _)
   | (with_reducible refine LeO.ite ?_ ?_)
   | (with_reducible refine LeO.bind ?_ (fun _ => ?_))
   | exact ih0 _ _ _ _
   | exact impl_Sealed.mono _ _
   | exact impl_SumMore.mono _ _ _
   | exact impl_SumOf.mono _ _
   | exact impl_Unsealed.mono _ _
   | exact spec_DrawPlaces.mono _ _
   | exact spec_DrawSumOf.mono _ _
   | exact LeO.none _
   | refine LeO.ite ?_ ?_
   | refine LeO.bind ?_ (fun _ => ?_)
def laws_FnTurned.T11 : Bool × List (List Nat × List Nat) := (true, [([], []), ([], []), ([], []), ([], []), ([2, 3], [2, 3]), ([4], [4]), ([], []), ([6], [6]), ([7], [7]), ([8], [8]), ([9], [9]), ([10], [10]), ([5, 11], [5, 11]), ([0, 1, 0, 1, 2, 3, 4, 5, 6, 7, 8, 9, 10, 11, 12], [0, 1]), ([13, 12, 0, 1, 2, 3, 4, 5, 6, 7, 8, 9, 10, 11, 12], [12, 13])])
def laws_FnTurned.B11 : List Nat := [0, 0, 0, 0, 12, 28, 0, 64, 192, 448, 960, 1984, 4092, 8191, 16383]
theorem laws_FnTurned.tab11 : rtab .any (opsOf Try.f8 11) = laws_FnTurned.T11 := by kernel_rfl
theorem laws_FnTurned.bits11 : waitsOk laws_FnTurned.T11.2 laws_FnTurned.B11 = true := by kernel_rfl
/-! ### '[]byte(s)': a row of bytes of the call's own, that bears the mark of a conversion -/
/-- Bytes in block g: each is there, none is frozen. -/
def BRow (w : World) (g : Nat) (ys : List Int) : Prop := (∀ j, j < ys.length → w.cell? ⟨g, j, none⟩ = some (.int .u8 (ys.getD j 0)) ∧ w.frozen? ⟨g, j, none⟩ = false) ∧ ys.length ≤ 9223372036854775807
theorem BRow.conv (W : World) (e : TypeId) (s : ByteArray) (hs : s.size ≤ 9223372036854775807) : BRow (Lib.bytesWorld W e s) W.heap.size (bytesOf s) := by
  refine ⟨fun j hj => ?_, by rw [bytesOf_length]; exact hs⟩
  rw [bytesOf_length] at hj
  obtain ⟨ad, he, hc⟩ := (bytes_reads W e s hs).2.2 (by omega)
  refine ⟨?_, ?_⟩
  · have := hc j hj
    injection he with he
    rw [← he, add_plain] at this
    exact this
  · unfold World.frozen?
    rw [Lib.bytesWorld_at_new]
    have hz : s.size ≤ (Lib.bytesCells W e s).size := by
      simp only [Lib.bytesCells, Array.size_append, Array.size_map, Array.size_replicate, ByteArray.size]; omega
    simp only [Bool.and_eq_false_imp, decide_eq_true_eq, decide_eq_false_iff_not]
    omega
theorem BRow.drew {w : World} {g : Nat} {ys : List Int} (h : BRow w g ys) : BRow w.drew g ys := h
theorem BRow.reads {w : World} {g : Nat} {ys : List Int} (h : BRow w g ys) : ReadsInt w .u8 (some ⟨g, 0, none⟩) ys.length ys := by
  refine ⟨rfl, h.2, fun _ => ⟨_, rfl, fun j hj => ?_⟩⟩
  rw [add_plain]
  exact (h.1 j hj).1
theorem BRow.c {w : World} {g : Nat} {ys : List Int} (h : BRow w g ys) : (Kd.int .u8).C w (some ⟨g, 0, none⟩) ys.length ys := Kd.C_of_reads (d := (0 : Int)) (h1 := fun _ => rfl) h.reads
theorem BRow.cell {w : World} {g : Nat} {ys : List Int} (h : BRow w g ys) (i : Int) (h0 : 0 ≤ i) (hi : i < ys.length) : w.cell? ⟨g, i.toNat, none⟩ = some (.int .u8 (rd ys i)) ∧ w.frozen? ⟨g, i.toNat, none⟩ = false := h.1 i.toNat (by omega)
theorem BRow.set {w : World} {g : Nat} {ys : List Int} (h : BRow w g ys) (i : Int) (h0 : 0 ≤ i) (hi : i < ys.length) (x : Int) : BRow (w.setCell ⟨g, i.toNat, none⟩ (.int .u8 x)) g (ys.set i.toNat x) := by
  refine ⟨fun j hj => ?_, by rw [List.length_set]; exact h.2⟩
  rw [List.length_set] at hj
  have hc := h.1 j hj
  refine ⟨?_, by rw [World.frozen?_setCell]; exact hc.2⟩
  by_cases e : j = i.toNat
  · subst e
    rw [World.cell?_setCell_same _ _ _ hc.1]
    simp [List.getD_eq_getElem?_getD, hj]
  · rw [World.cell?_setCell_other _ _ _ _ (by intro h2; injection h2 with h3 h4; exact e h4.symm), hc.1]
    simp [List.getD_eq_getElem?_getD, List.getElem?_set, Ne.symm e]
section
variable {P : Program} {ops : Array Oper} {rest : List Oper} {o : Oper} {a : Act} {Q : Exit → Act → World → Prop}
theorem conv_event {W : World} (hgd : o.guard = none) {N : Tmp} (hd : o.dst = some N) (src dst e : TypeId) (x : Operand) (ho : o.op = .convert src dst x) (s : ByteArray) (hx : a.eval x = .string s) (hz : s.size ≤ 9223372036854775807) {u : TypeDesc}
    (hs : P.underlying src = some u) (hd' : P.underlying dst = some (.slice e)) (he : P.underlying e = some (.int .u8))
    (h : ∀ (g c : Nat) (w1 : World), W.heap.size ≤ g → BRow w1 g (bytesOf s) → Below W.heap.size W w1 → wpList P ops Q rest (a.put o.dst (.slice (some ⟨g, 0, none⟩) (bytesOf s).length c)) w1) : wpList P ops Q (o :: rest) a W := by
  have hr := print_bytes (P := P) src dst e hs hd' he s W
  refine Kd.event_run hgd (w1 := Lib.bytesWorld W e s) (v := .slice (some ⟨W.heap.size, 0, none⟩) s.size (grownCap W s.size 0 e)) ?_ ?_
  · simp [execOp, ho, hx, hr]
  · have h2 := h W.heap.size (grownCap W s.size 0 e) (Lib.bytesWorld W e s) (Nat.le_refl _) (BRow.conv W e s hz) (bytes_below (Below.refl _ _) (Nat.le_refl _) e s)
    rw [bytesOf_length] at h2
    exact h2
end
set_option maxHeartbeats 8000000 in
set_option maxRecDepth 100000 in
theorem laws_FnTurned.calls (k : Nat) (A0 : Option Addr) (c0 : Nat) (l0 : List Int) (r : Bool) (w : World) (hr0 : Kd.C (Kd.int .u8) w A0 l0.length l0) (hc0 : l0.length ≤ c0) (hr_ : r = true) (h : laws_FnTurned.f k l0 = some r) :
  Calls Try.prog 8 #[.slice A0 l0.length c0] w fun e w' => e = .returned (.bool r) ∧ Below w.heap.size w w' := by
 have HR0 := Aside0.mk hr0
 have HC0 := Aside0.mk hc0
 clear hr0 hc0
 have HB := Aside0.mk (Below.refl w.heap.size w)
 have H : ((laws_big.f l0).bind fun t162 => (if t162 = true then (some true) else ((spec_DrawSumOf.f k l0).bind fun t163 => ((spec_DrawPlaces.f k l0).bind fun t164 => ((impl_Sealed.f k t163).bind fun bt167 => ((impl_Unsealed.f k bt167.1).bind fun bt169 => (if bt167.2 = true then (if bt169.2 = true then (if bt169.1.toList = t163.toList then (laws_FnTurned.j0 k t163 t164 bt167.1 ((bt167.1.size : Int) != (wrap64 ((t163.size : Int) + 4)))) else (laws_FnTurned.j0 k t163 t164 bt167.1 true)) else (laws_FnTurned.j0 k t163 t164 bt167.1 true)) else (laws_FnTurned.j0 k t163 t164 bt167.1 true)))))))) = some r := h
 clear h
 replace H := Option.bind_eq_some_iff.mp H
 obtain ⟨t162, A20, H⟩ := H
 replace H : (if t162 = true then (some true) else ((spec_DrawSumOf.f k l0).bind fun t163 => ((spec_DrawPlaces.f k l0).bind fun t164 => ((impl_Sealed.f k t163).bind fun bt167 => ((impl_Unsealed.f k bt167.1).bind fun bt169 => (if bt167.2 = true then (if bt169.2 = true then (if bt169.1.toList = t163.toList then (laws_FnTurned.j0 k t163 t164 bt167.1 ((bt167.1.size : Int) != (wrap64 ((t163.size : Int) + 4)))) else (laws_FnTurned.j0 k t163 t164 bt167.1 true)) else (laws_FnTurned.j0 k t163 t164 bt167.1 true)) else (laws_FnTurned.j0 k t163 t164 bt167.1 true))))))) = some r := H
 have A2 := Aside0.mk A20
 clear A20
 have HC3 := Aside0.mk H
 clear H
 go_enter Try.func8, Try.ntmps8
 go_upto_if 14 with (first | ((with_reducible refine gate_callee (f := 23) rfl ?_); refine goesL_ (some 14) rfl rfl Try.func23 (by kernel_rfl) rfl #[.slice A0 l0.length c0] rfl mp_q ?_; (with_reducible refine (laws_big.calls _ _ l0 t162 _ ?side1 ?side2 A2.out).mono ?_); (case side1 => repeat (first | exact HR0.out | (with_reducible refine Kd.C_alloc ?_ _) | (with_reducible refine Kd.C_drewN ?_ _) | (with_reducible refine Kd.C_drew ?_))); (case side2 => exact HC0.out); rintro e w' ⟨rfl, ⟨nd, rfl⟩⟩; refine ⟨_, rfl, ?_⟩))
 have H := HC3.out
 clear HC3
 by_cases c4 : t162 = true
 ·subst c4
  have H1 : (some true) = some r := by rw [if_pos rfl] at H; exact H
  clear H
  have H := H1
  clear H1
  obtain rfl := Option.some.inj H
  go_wp2
  go_ret
  exact ⟨er_q, bw_q HB⟩
 ·replace c4 := Bool.eq_false_iff.mpr c4
  subst c4
  have H1 : ((spec_DrawSumOf.f k l0).bind fun t163 => ((spec_DrawPlaces.f k l0).bind fun t164 => ((impl_Sealed.f k t163).bind fun bt167 => ((impl_Unsealed.f k bt167.1).bind fun bt169 => (if bt167.2 = true then (if bt169.2 = true then (if bt169.1.toList = t163.toList then (laws_FnTurned.j0 k t163 t164 bt167.1 ((bt167.1.size : Int) != (wrap64 ((t163.size : Int) + 4)))) else (laws_FnTurned.j0 k t163 t164 bt167.1 true)) else (laws_FnTurned.j0 k t163 t164 bt167.1 true)) else (laws_FnTurned.j0 k t163 t164 bt167.1 true)))))) = some r := by rw [if_neg (show ¬ (false = true) by decide)] at H; exact H
  clear H
  have H := H1
  clear H1
  replace H := Option.bind_eq_some_iff.mp H
  obtain ⟨t163, A50, H⟩ := H
  replace H : ((spec_DrawPlaces.f k l0).bind fun t164 => ((impl_Sealed.f k t163).bind fun bt167 => ((impl_Unsealed.f k bt167.1).bind fun bt169 => (if bt167.2 = true then (if bt169.2 = true then (if bt169.1.toList = t163.toList then (laws_FnTurned.j0 k t163 t164 bt167.1 ((bt167.1.size : Int) != (wrap64 ((t163.size : Int) + 4)))) else (laws_FnTurned.j0 k t163 t164 bt167.1 true)) else (laws_FnTurned.j0 k t163 t164 bt167.1 true)) else (laws_FnTurned.j0 k t163 t164 bt167.1 true))))) = some r := H
  have A5 := Aside0.mk A50
  clear A50
  replace H := Option.bind_eq_some_iff.mp H
  obtain ⟨t164, A60, H⟩ := H
  replace H : ((impl_Sealed.f k t163).bind fun bt167 => ((impl_Unsealed.f k bt167.1).bind fun bt169 => (if bt167.2 = true then (if bt169.2 = true then (if bt169.1.toList = t163.toList then (laws_FnTurned.j0 k t163 t164 bt167.1 ((bt167.1.size : Int) != (wrap64 ((t163.size : Int) + 4)))) else (laws_FnTurned.j0 k t163 t164 bt167.1 true)) else (laws_FnTurned.j0 k t163 t164 bt167.1 true)) else (laws_FnTurned.j0 k t163 t164 bt167.1 true)))) = some r := H
  have A6 := Aside0.mk A60
  clear A60
  replace H := Option.bind_eq_some_iff.mp H
  obtain ⟨⟨t167, t168⟩, A70, H⟩ := H
  replace H : ((impl_Unsealed.f k t167).bind fun bt169 => (if t168 = true then (if bt169.2 = true then (if bt169.1.toList = t163.toList then (laws_FnTurned.j0 k t163 t164 t167 ((t167.size : Int) != (wrap64 ((t163.size : Int) + 4)))) else (laws_FnTurned.j0 k t163 t164 t167 true)) else (laws_FnTurned.j0 k t163 t164 t167 true)) else (laws_FnTurned.j0 k t163 t164 t167 true))) = some r := H
  have A7 := Aside0.mk A70
  clear A70
  replace H := Option.bind_eq_some_iff.mp H
  obtain ⟨⟨t169, t170⟩, A80, H⟩ := H
  replace H : (if t168 = true then (if t170 = true then (if t169.toList = t163.toList then (laws_FnTurned.j0 k t163 t164 t167 ((t167.size : Int) != (wrap64 ((t163.size : Int) + 4)))) else (laws_FnTurned.j0 k t163 t164 t167 true)) else (laws_FnTurned.j0 k t163 t164 t167 true)) else (laws_FnTurned.j0 k t163 t164 t167 true)) = some r := H
  have A8 := Aside0.mk A80
  clear A80
  have HC9 := Aside0.mk H
  clear H
  go_upto_region 7 with (first | ((with_reducible refine gate_callee (f := 32) rfl ?_); refine goesL_ (some 16) rfl rfl Try.func32 (by kernel_rfl) rfl #[.slice A0 l0.length c0] rfl mp_q ?_; (with_reducible refine (spec_DrawSumOf.calls k _ _ l0 t163 _ ?side1 ?side2 A5.out).mono ?_); (case side1 => exact cs_q (Kd.C_below HR0.out HB.out)); (case side2 => exact HC0.out); rintro e w10 ⟨rfl, hb⟩; refine ⟨_, rfl, ?_⟩; replace HB := Aside0.mk (below_step (bw_q HB) hb); (try clear hb); (try clear hb2); (try clear hk); (try clear hi)) | ((with_reducible refine gate_callee (f := 33) rfl ?_); refine goesL_ (some 18) rfl rfl Try.func33 (by kernel_rfl) rfl #[.slice A0 l0.length c0] rfl mp_q ?_; (with_reducible refine (spec_DrawPlaces.calls k _ _ l0 t164 _ ?side1 ?side2 A6.out).mono ?_); (case side1 => exact cs_q (Kd.C_below HR0.out HB.out)); (case side2 => exact HC0.out); rintro e w11 ⟨v165, rfl, ho0, hb⟩; refine ⟨_, rfl, ?_⟩; have HO166 := Aside0.mk (Kd.R_lower ho0 (below_size (bw_q HB))); replace HB := Aside0.mk (below_step (bw_q HB) hb); (try clear hb); (try clear hb2); (try clear hk); (try clear hi); (try clear ho0)) | ((with_reducible refine gate_callee (f := 34) rfl ?_); refine goesL_ (some 21) rfl rfl Try.func34 (by kernel_rfl) rfl #[.string t163] rfl mp_q ?_; (with_reducible refine (impl_Sealed.calls k t163 t167 t168 _ A7.out).mono ?_); rintro e w12 ⟨rfl, hb⟩; refine ⟨_, rfl, ?_⟩; replace HO166 := Aside0.mk (Kd.R_below (kR_q HO166) hb); replace HB := Aside0.mk (below_step (bw_q HB) hb); (try clear hb); (try clear hb2); (try clear hk); (try clear hi)) | ((with_reducible refine gate_callee (f := 35) rfl ?_); refine goesL_ (some 26) rfl rfl Try.func35 (by kernel_rfl) rfl #[.string t167] rfl mp_q ?_; (with_reducible refine (impl_Unsealed.calls k t167 t169 t170 _ A8.out).mono ?_); rintro e w13 ⟨rfl, hb⟩; refine ⟨_, rfl, ?_⟩; replace HO166 := Aside0.mk (Kd.R_below (kR_q HO166) hb); replace HB := Aside0.mk (below_step (bw_q HB) hb); (try clear hb); (try clear hb2); (try clear hk); (try clear hi)))
  (try simp only [Act.put, List.setIfInBounds_toArray, List.set_cons_zero, List.set_cons_succ])
  go_cut [47] (fun v47 wc => ∃ (kq : Nat) (x47_8 : Bool), v47 = .bool x47_8 ∧ Aside0 (laws_FnTurned.j0 kq t163 t164 t167 x47_8 = some r) ∧ Aside0 (kq ≤ k) ∧ Aside0 (Kd.R (Kd.int .i64) 3 wc w.heap.size (fun _ => True) v165 t164) ∧ Aside0 (Below w.heap.size w wc))
  case first =>
   have H := HC9.out
   clear HC9
   by_cases c14 : t168 = true
   ·subst c14
    have H1 : (if t170 = true then (if t169.toList = t163.toList then (laws_FnTurned.j0 k t163 t164 t167 ((t167.size : Int) != (wrap64 ((t163.size : Int) + 4)))) else (laws_FnTurned.j0 k t163 t164 t167 true)) else (laws_FnTurned.j0 k t163 t164 t167 true)) = some r := by rw [if_pos rfl] at H; exact H
    clear H
    have H := H1
    clear H1
    by_cases c15 : t170 = true
    ·subst c15
     have H1 : (if t169.toList = t163.toList then (laws_FnTurned.j0 k t163 t164 t167 ((t167.size : Int) != (wrap64 ((t163.size : Int) + 4)))) else (laws_FnTurned.j0 k t163 t164 t167 true)) = some r := by rw [if_pos rfl] at H; exact H
     clear H
     have H := H1
     clear H1
     by_cases c16 : t169.toList = t163.toList
     ·rw [if_pos c16] at H
      have c16b0 : (t169.toList == t163.toList) = true := beq_iff_eq.mpr c16
      have c16b1 : (t169.toList != t163.toList) = false := bne_eq_false_iff_eq.mpr c16
      clear c16
      (first | rw [c16b0] | rw [c16b1] | (simp only [i64_w, i32_w]; first | rw [c16b0] | rw [c16b1]) | skip)
      have H' := Aside0.mk H
      clear H
      go_wp2
      go_meet
      case rel => exact ⟨_, (((t167.size : Int) != (wrap64 ((t163.size : Int) + 4)))), (by first | rfl | (simp; done) | (simp [*]; done)), H', ⟨by first | omega | exact Nat.le_refl _⟩, ⟨by (with_reducible repeat (first | apply Kd.R_alloc | apply Kd.R_drewN | apply Kd.R_drew)); exact HO166.out⟩, ⟨bw_q HB⟩⟩
     ·rw [if_neg c16] at H
      have c16b0 : (t169.toList == t163.toList) = false := beq_eq_false_iff_ne.mpr c16
      have c16b1 : (t169.toList != t163.toList) = true := bne_iff_ne.mpr c16
      (first | rw [c16b0] | rw [c16b1] | (simp only [i64_w, i32_w]; first | rw [c16b0] | rw [c16b1]) | skip)
      have H' := Aside0.mk H
      clear H
      go_wp2
      go_meet
      case rel => exact ⟨_, (true), (by first | rfl | (simp; done) | (simp [*]; done)), H', ⟨by first | omega | exact Nat.le_refl _⟩, ⟨by (with_reducible repeat (first | apply Kd.R_alloc | apply Kd.R_drewN | apply Kd.R_drew)); exact HO166.out⟩, ⟨bw_q HB⟩⟩
    ·replace c15 := Bool.eq_false_iff.mpr c15
     subst c15
     have H1 : (laws_FnTurned.j0 k t163 t164 t167 true) = some r := by rw [if_neg (show ¬ (false = true) by decide)] at H; exact H
     clear H
     have H := H1
     clear H1
     have H' := Aside0.mk H
     clear H
     go_wp2
     go_meet
     case rel => exact ⟨_, (true), (by first | rfl | (simp; done) | (simp [*]; done)), H', ⟨by first | omega | exact Nat.le_refl _⟩, ⟨by (with_reducible repeat (first | apply Kd.R_alloc | apply Kd.R_drewN | apply Kd.R_drew)); exact HO166.out⟩, ⟨bw_q HB⟩⟩
   ·replace c14 := Bool.eq_false_iff.mpr c14
    subst c14
    have H1 : (laws_FnTurned.j0 k t163 t164 t167 true) = some r := by rw [if_neg (show ¬ (false = true) by decide)] at H; exact H
    clear H
    have H := H1
    clear H1
    have H' := Aside0.mk H
    clear H
    go_wp2
    go_meet
    case rel => exact ⟨_, (true), (by first | rfl | (simp; done) | (simp [*]; done)), H', ⟨by first | omega | exact Nat.le_refl _⟩, ⟨by (with_reducible repeat (first | apply Kd.R_alloc | apply Kd.R_drewN | apply Kd.R_drew)); exact HO166.out⟩, ⟨bw_q HB⟩⟩
  case rest =>
   clear HC9
   try clear c1
   try clear c2
   try clear p2
   try clear c3
   try clear c4
   try clear p6
   try clear c8
   try clear c14
   try clear c15
   try clear c16
   try clear c16b0
   try clear c16b1
   obtain ⟨kq, x47_8, rfl, HA, HJ8, HO_4, HB⟩ := hcut
   cases kq with
   | zero => exact absurd HA.out (by simp [laws_FnTurned.j0])
   | succ kj8 =>
    have H := HA.out
    clear HA
    simp only [laws_FnTurned.j0] at H
    by_cases c17 : x47_8 = true
    ·subst c17
     have H1 : (some false) = some r := by rw [if_pos rfl] at H; exact H
     clear H
     have H := H1
     clear H1
     exact absurd (Option.some.inj H) (by rw [hr_]; decide)
    ·replace c17 := Bool.eq_false_iff.mpr c17
     subst c17
     have H1 : (if 0 ≤ (t167.size : Int) then (if ((t167.size : Int) : Int).toNat ≤ 281474976710656 then ((some (bytesOf t167 : List Int)).bind fun y171 => (if 0 < (t164.length : Int) then (if (y171.length : Int) = 0 then (none) else (if 0 ≤ (Int.tmod (rd t164 0) (y171.length : Int)) then (if (Int.tmod (rd t164 0) (y171.length : Int)) < (y171.length : Int) then (if 1 < (t164.length : Int) then ((impl_Unsealed.f kj8 (strOfNums (y171.set ((Int.tmod (rd t164 0) (y171.length : Int)) : Int).toNat (Go.bits .xor .u8 (rd y171 (Int.tmod (rd t164 0) (y171.length : Int))) ((wrap64 (1 + (Int.tmod (rd t164 1) 255))) % 256))))).bind fun bt178 => (if bt178.2 = true then (some false) else ((impl_SumOf.f kj8 t163).bind fun t180 => ((impl_SumMore.f kj8 t180 (⟨#[120]⟩ : ByteArray)).bind fun t181 => (if t163.size + 1 ≤ 9223372036854775807 then ((impl_SumOf.f kj8 (t163 ++ (⟨#[120]⟩ : ByteArray))).bind fun t182 => (some (t181 == t182))) else (none)))))) else (none)) else (none)) else (none))) else (none))) else (none)) else (none)) = some r := by rw [if_neg (show ¬ (false = true) by decide)] at H; exact H
     clear H
     have H := H1
     clear H1
     by_cases c18 : 0 ≤ (t167.size : Int)
     ·rw [if_pos c18] at H
      have c18b0 := eq_true c18
      have c18b1 : decide (0 ≤ (t167.size : Int)) = true := decide_eq_true c18
      clear c18
      by_cases c19 : ((t167.size : Int) : Int).toNat ≤ 281474976710656
      ·rw [if_pos c19] at H
       have c19b0 := eq_true c19
       have c19b1 : decide (((t167.size : Int) : Int).toNat ≤ 281474976710656) = true := decide_eq_true c19
       clear c19
       obtain ⟨y171, hy171⟩ : ∃ y_ : List Int, y_ = (bytesOf t167) := ⟨_, rfl⟩
       replace H : (if 0 < (t164.length : Int) then (if (y171.length : Int) = 0 then (none) else (if 0 ≤ (Int.tmod (rd t164 0) (y171.length : Int)) then (if (Int.tmod (rd t164 0) (y171.length : Int)) < (y171.length : Int) then (if 1 < (t164.length : Int) then ((impl_Unsealed.f kj8 (strOfNums (y171.set ((Int.tmod (rd t164 0) (y171.length : Int)) : Int).toNat (Go.bits .xor .u8 (rd y171 (Int.tmod (rd t164 0) (y171.length : Int))) ((wrap64 (1 + (Int.tmod (rd t164 1) 255))) % 256))))).bind fun bt178 => (if bt178.2 = true then (some false) else ((impl_SumOf.f kj8 t163).bind fun t180 => ((impl_SumMore.f kj8 t180 (⟨#[120]⟩ : ByteArray)).bind fun t181 => (if t163.size + 1 ≤ 9223372036854775807 then ((impl_SumOf.f kj8 (t163 ++ (⟨#[120]⟩ : ByteArray))).bind fun t182 => (some (t181 == t182))) else (none)))))) else (none)) else (none)) else (none))) else (none)) = some r := by first | (rw [hy171]; with_reducible exact H) | (have H2_ := (Option.bind_some _ _).symm.trans H; rw [hy171]; with_reducible exact H2_) | (have H2_ := (Option.bind_some _ _).symm.trans H; with_reducible exact H2_) | with_reducible exact H | (rw [hy171]; exact H) | exact H
       have Ny171 := Aside0.mk hy171
       clear hy171
       by_cases c20 : 0 < (t164.length : Int)
       ·rw [if_pos c20] at H
        have c20b0 : decide (0 < (t164.length : Int)) = true := decide_eq_true c20
        have c20b1 : decide (0 < t164.length) = true := decide_eq_true (by omega)
        clear c20
        by_cases c21 : (y171.length : Int) = 0
        ·rw [if_pos c21] at H
         exact absurd H (by simp)
        ·rw [if_neg c21] at H
         have c21b0 : ((y171.length : Int) == 0) = false := beq_eq_false_iff_ne.mpr c21
         have c21b1 : ((y171.length : Int) != 0) = true := bne_iff_ne.mpr c21
         have c21b2 : ¬ (y171 = []) := fun h_ => c21 (by rw [h_]; rfl)
         obtain ⟨ji22, hji22⟩ : ∃ j_ : Int, (Int.tmod (rd t164 0) (y171.length : Int)) = j_ := ⟨_, rfl⟩
         replace H : (if 0 ≤ (ji22) then (if (ji22) < (y171.length : Int) then (if 1 < (t164.length : Int) then ((impl_Unsealed.f kj8 (strOfNums (y171.set ((ji22) : Int).toNat (Go.bits .xor .u8 (rd y171 (ji22)) ((wrap64 (1 + (Int.tmod (rd t164 1) 255))) % 256))))).bind fun bt178 => (if bt178.2 = true then (some false) else ((impl_SumOf.f kj8 t163).bind fun t180 => ((impl_SumMore.f kj8 t180 (⟨#[120]⟩ : ByteArray)).bind fun t181 => (if t163.size + 1 ≤ 9223372036854775807 then ((impl_SumOf.f kj8 (t163 ++ (⟨#[120]⟩ : ByteArray))).bind fun t182 => (some (t181 == t182))) else (none)))))) else (none)) else (none)) else (none)) = some r := by first | (rw [hji22] at H; exact H) | (simp only [hji22] at H ⊢; exact H)
         by_cases c23 : 0 ≤ (ji22)
         ·rw [if_pos c23] at H
          have c23b0 : decide (0 ≤ (ji22)) = true := decide_eq_true c23
          clear c23
          by_cases c24 : (ji22) < (y171.length : Int)
          ·rw [if_pos c24] at H
           have c24b0 : decide ((ji22) < (y171.length : Int)) = true := decide_eq_true c24
           clear c24
           by_cases c25 : 1 < (t164.length : Int)
           ·rw [if_pos c25] at H
            have c25b0 : decide (1 < (t164.length : Int)) = true := decide_eq_true c25
            have c25b1 : decide (1 < t164.length) = true := decide_eq_true (by omega)
            clear c25
            obtain ⟨y177, hy177⟩ : ∃ y_ : List Int, y_ = (y171.set ((ji22) : Int).toNat (Go.bits .xor .u8 (rd y171 (ji22)) ((wrap64 (1 + (Int.tmod (rd t164 1) 255))) % 256))) := ⟨_, rfl⟩
            replace H : ((impl_Unsealed.f kj8 (strOfNums y177)).bind fun bt178 => (if bt178.2 = true then (some false) else ((impl_SumOf.f kj8 t163).bind fun t180 => ((impl_SumMore.f kj8 t180 (⟨#[120]⟩ : ByteArray)).bind fun t181 => (if t163.size + 1 ≤ 9223372036854775807 then ((impl_SumOf.f kj8 (t163 ++ (⟨#[120]⟩ : ByteArray))).bind fun t182 => (some (t181 == t182))) else (none)))))) = some r := by first | (rw [hy177]; with_reducible exact H) | (have H2_ := (Option.bind_some _ _).symm.trans H; rw [hy177]; with_reducible exact H2_) | (have H2_ := (Option.bind_some _ _).symm.trans H; with_reducible exact H2_) | with_reducible exact H | (rw [hy177]; exact H) | exact H
            have Ny177 := Aside0.mk hy177
            clear hy177
            replace H := Option.bind_eq_some_iff.mp H
            obtain ⟨⟨t178, t179⟩, A270, H⟩ := H
            replace H : (if t179 = true then (some false) else ((impl_SumOf.f kj8 t163).bind fun t180 => ((impl_SumMore.f kj8 t180 (⟨#[120]⟩ : ByteArray)).bind fun t181 => (if t163.size + 1 ≤ 9223372036854775807 then ((impl_SumOf.f kj8 (t163 ++ (⟨#[120]⟩ : ByteArray))).bind fun t182 => (some (t181 == t182))) else (none))))) = some r := H
            have A27 := Aside0.mk A270
            clear A270
            by_cases c28 : t179 = true
            ·subst c28
             have H1 : (some false) = some r := by rw [if_pos rfl] at H; exact H
             clear H
             have H := H1
             clear H1
             exact absurd (Option.some.inj H) (by rw [hr_]; decide)
            ·replace c28 := Bool.eq_false_iff.mpr c28
             subst c28
             have H1 : ((impl_SumOf.f kj8 t163).bind fun t180 => ((impl_SumMore.f kj8 t180 (⟨#[120]⟩ : ByteArray)).bind fun t181 => (if t163.size + 1 ≤ 9223372036854775807 then ((impl_SumOf.f kj8 (t163 ++ (⟨#[120]⟩ : ByteArray))).bind fun t182 => (some (t181 == t182))) else (none)))) = some r := by rw [if_neg (show ¬ (false = true) by decide)] at H; exact H
             clear H
             have H := H1
             clear H1
             replace H := Option.bind_eq_some_iff.mp H
             obtain ⟨t180, A290, H⟩ := H
             replace H : ((impl_SumMore.f kj8 t180 (⟨#[120]⟩ : ByteArray)).bind fun t181 => (if t163.size + 1 ≤ 9223372036854775807 then ((impl_SumOf.f kj8 (t163 ++ (⟨#[120]⟩ : ByteArray))).bind fun t182 => (some (t181 == t182))) else (none))) = some r := H
             have A29 := Aside0.mk A290
             clear A290
             replace H := Option.bind_eq_some_iff.mp H
             obtain ⟨t181, A300, H⟩ := H
             replace H : (if t163.size + 1 ≤ 9223372036854775807 then ((impl_SumOf.f kj8 (t163 ++ (⟨#[120]⟩ : ByteArray))).bind fun t182 => (some (t181 == t182))) else (none)) = some r := H
             have A30 := Aside0.mk A300
             clear A300
             by_cases c31 : t163.size + 1 ≤ 9223372036854775807
             ·rw [if_pos c31] at H
              have c31b0 := eq_true c31
              have c31b1 : decide (t163.size + 1 ≤ 9223372036854775807) = true := decide_eq_true c31
              try have c31b2 : (9223372036854775807 < t163.size + 1) = False := eq_false (Nat.not_lt.2 c31)
              try (have c31b3 := c31b2; simp only [ByteArray.size_append] at c31b3)
              replace H := Option.bind_eq_some_iff.mp H
              obtain ⟨t182, A320, H⟩ := H
              replace H : (some (t181 == t182)) = some r := H
              have A32 := Aside0.mk A320
              clear A320
              obtain rfl := Option.some.inj H
              try go_wp2_with (first | ((with_reducible refine gate_dst (N := 49) rfl ?_); (try (refine gate_guard (by rfl) ?_; dsimp only)); refine conv_event (P := Try.prog) rfl (N := 49) rfl 9 46 5 (.tmp 48) rfl t167 rfl (by have h_ : (t167.size : Int).toNat ≤ 281474976710656 := of_decide_eq_true as_q; omega) Try.underlying9 Try.underlying46 Try.underlying5 ?_; intro g26 c26 w33 hg26 hbr hb; rw [← Ny171.out] at hbr ⊢; have HBR := Aside0.mk hbr; have HG26 := Aside0.mk (Nat.le_trans (below_size (bw_q HB)) hg26); replace HO_4 := Aside0.mk (Kd.R_below (kR_q HO_4) hb); replace HB := Aside0.mk (below_step (bw_q HB) hb); clear hb hbr hg26; obtain ⟨Ao35, co35, eo35⟩ := Kd.R_slice HO_4.out; subst eo35; have p174 : 0 ≤ (0 : Int) := (by omega); have q174 : 0 < (t164.length : Int) := of_decide_eq_true as_q; obtain ⟨ad174, e174, hx174_0⟩ := Kd.at_int (Kd.R_reads' HO_4.out).2.2 0 p174 q174; cases e174; have qi174 : (0 < t164.length) = True := eq_true (by omega); (try rw [show ((0 : Int)).toNat = 0 from rfl] at hx174_0); (try rw [Addr.add_zero'] at hx174_0); replace p174 := eq_true p174; replace q174 := eq_true q174))
              replace HO_4 := Aside0.mk (Kd.R_drew HO_4.out)
              replace HBR := Aside0.mk (BRow.drew HBR.out)
              replace HB := Aside0.mk (below_drew1 HB.out)
              have p175 : 0 ≤ ((ji22) : Int) := of_decide_eq_true as_q
              have q175 : (ji22) < (y171.length : Int) := of_decide_eq_true as_q
              obtain ⟨ad175, e175, hx175_0⟩ := Kd.at_int HBR.out.c (ji22) p175 q175
              cases e175
              replace p175 := eq_true p175
              replace q175 := eq_true q175
              have p176 : 0 ≤ (1 : Int) := (by omega)
              have q176 : 1 < (t164.length : Int) := of_decide_eq_true as_q
              obtain ⟨ad176, e176, hx176_0⟩ := Kd.at_int (Kd.R_reads' HO_4.out).2.2 1 p176 q176
              obtain rfl : ad174 = ad176 := (by injection e176)
              (try simp only [show (1 : Int).toNat = 1 from rfl, Nat.reduceMul, Nat.reduceEqDiff, Go.Addr.add, ↓reduceIte] at hx176_0)
              have qi176 : (1 < t164.length) = True := eq_true (by omega)
              (try rw [show ((1 : Int)).toNat = 1 from rfl] at hx176_0)
              replace p176 := eq_true p176
              replace q176 := eq_true q176
              have p26 : 0 ≤ ((ji22) : Int) := of_decide_eq_true as_q
              have q26 : ((ji22) : Int) < ((y171.length : Int) : Int) := of_decide_eq_true as_q
              (first | simp only [add_plain] at hx175_0 | skip)
              obtain ⟨hx26_0, hf26_0⟩ := BRow.cell HBR.out ((ji22) : Int) p26 q26
              have HP38 := BRow.set HBR.out ((ji22) : Int) p26 q26 (Go.bits .xor .u8 (rd y171 (ji22)) ((wrap64 (1 + (Int.tmod (rd t164 1) 255))) % 256))
              replace p26 := eq_true p26
              replace q26 := eq_true q26
              rw [← Ny177.out] at HP38
              have HQ38 := Aside0.mk HP38
              clear HP38
              refine start_ (n := 15) (S := fun w' => w'.cell? ⟨g26, ((ji22)).toNat, none⟩ = some (.int .u8 (rd y171 (ji22))) ∧ w'.cell? ⟨ad174.block, ad174.off + 1, none⟩ = some (.int .i64 (rd t164 1))) (ds := [14]) (bL 15 0) (by kernel_rfl) rfl rfl ⟨hx175_0, hx176_0⟩ (fun hHeld => ?_); refine with_tabW laws_FnTurned.tab11 laws_FnTurned.bits11 (fun HT_ HW_ => ?_)
              generalize w33.drew = w37 at HO_4 HBR HB HQ38 hf26_0 hx175_0 hx176_0 hx26_0 hHeld ⊢
              refine pq_ 0 56 (bL 15 1) HT_.out rfl rfl ?_
              refine pq_ 1 57 (bL 15 3) HT_.out rfl rfl ?_
              refine pq_ 2 58 (bL 15 7) HT_.out rfl rfl ?_
              refine pq_ 3 59 (bL 15 15) HT_.out rfl rfl ?_
              refine pq_ 4 60 (bL 15 31) HT_.out rfl rfl ?_
              refine pq_ 6 62 (bL 15 95) HT_.out rfl rfl ?_
              refine pq_ 7 63 (bL 15 223) HT_.out rfl rfl ?_
              refine take_ (i := 5) (N := some 61) (v := ?_) (a' := ?_) (bL 15 255) rfl rfl (take_ofW HT_.out HW_.out (by kernel_rfl)) (fun _ _ _ h => h) (Or.inl ⟨by rfl, ?_⟩) hHeld ?_ ?_; rotate_left; (rintro w' ⟨s0, s1⟩; go_simp; with_reducible rfl); rotate_left; (exact put_q)
              refine take_ (i := 8) (N := some 64) (v := ?_) (a' := ?_) (bL 15 511) rfl rfl (take_ofW HT_.out HW_.out (by kernel_rfl)) (fun _ _ _ h => h) (Or.inl ⟨by rfl, ?_⟩) hHeld ?_ ?_; rotate_left; (rintro w' ⟨s0, s1⟩; go_simp; with_reducible rfl); rotate_left; (exact put_q)
              refine pq_ 9 65 (bL 15 1023) HT_.out rfl rfl ?_
              refine pq_ 10 66 (bL 15 2047) HT_.out rfl rfl ?_
              refine pq_ 11 67 (bL 15 4095) HT_.out rfl rfl ?_
              refine pq_ 12 68 (bL 15 8191) HT_.out rfl rfl ?_
              refine pq_ 13 69 (bL 15 16383) HT_.out rfl rfl ?_
              refine last_ (i := 14) (N := none) (bL 15 32767) rfl rfl (one_of HT_.out (by kernel_rfl)) (by decide) (fun K hK => ?_)
              refine skip_ (w1 := ?_) (by rfl) rfl ?_ ?_
              rotate_left
              ·go_simp
               rfl
              refine hK.out _ _ ?_
              clear hK K
              refine done_ (done_of HT_.out (by kernel_rfl)) ?_
              have hcv39 := Kd.C_string (P := Try.prog) (c := c26) Try.underlying46 Try.underlying5 Try.underlying9 HQ38.out.c
              rw [Ny177.out, List.length_set] at hcv39
              rw [← Ny177.out] at hcv39
              try go_wp2_with (first | ((with_reducible refine gate_callee (f := 35) rfl ?_); refine goesL_ (some 73) rfl rfl Try.func35 (by kernel_rfl) rfl #[.string (strOfNums y177)] rfl mp_q ?_; (with_reducible refine (impl_Unsealed.calls kj8 (strOfNums y177) t178 false _ A27.out).mono ?_); rintro e w40 ⟨rfl, hb⟩; refine ⟨_, rfl, ?_⟩; replace HB := Aside0.mk (below_step (bw_q HB) hb); (try clear hb); (try clear hb2); (try clear hk); (try clear hi)) | (go_at_call 37; (with_reducible refine (impl_SumOf.calls kj8 t163 t180 _ A29.out).mono ?_); rintro e w' ⟨rfl, ⟨nd, rfl⟩⟩) | (go_at_call 36; (with_reducible refine (impl_SumMore.calls kj8 t180 (⟨#[120]⟩ : ByteArray) t181 _ A30.out).mono ?_); rintro e w' ⟨rfl, ⟨nd, rfl⟩⟩) | (go_at_call 37; (with_reducible refine (impl_SumOf.calls kj8 (t163 ++ (⟨#[120]⟩ : ByteArray)) t182 _ A32.out).mono ?_); rintro e w' ⟨rfl, ⟨nd, rfl⟩⟩))
              go_ret
              exact ⟨by first | rfl | (simp [errW_none, errW_some] <;> rfl) | (simp only [← hji22]; first | rfl | (simp [errW_none, errW_some] <;> rfl)) | (simp [*, errW_none, errW_some] <;> rfl), bw_q HB⟩
             ·rw [if_neg c31] at H
              exact absurd H (by simp)
           ·rw [if_neg c25] at H
            exact absurd H (by simp)
          ·rw [if_neg c24] at H
           exact absurd H (by simp)
         ·rw [if_neg c23] at H
          exact absurd H (by simp)
       ·rw [if_neg c20] at H
        exact absurd H (by simp)
      ·rw [if_neg c19] at H
       exact absurd H (by simp)
     ·rw [if_neg c18] at H
      exact absurd H (by simp)

/-- THE ONE PURE STATEMENT of laws_FnTurned: yours. -/
def laws_FnTurned.Pure : Prop := ∀ (l0 : List Int), l0.length ≤ maxLen → l0.length * 1 ≤ 140737488351232 → (∀ x ∈ l0, (Lit.int .u8 x).wf = true) → ∃ k, laws_FnTurned.f k l0 = some true
theorem laws_FnTurned.walk (P : laws_FnTurned.Pure) (a0 : Option Addr) (len0 cap0 : Nat) (z0 : List Int) (w : World) (w0 : (a0 = none ∧ len0 = 0 ∧ cap0 = 0 ∧ z0 = []) ∨ ∃ x, a0 = some x ∧ len0 ≤ cap0 ∧ cap0 ≤ maxLen ∧ z0.length = cap0 ∧ (∀ i, i < z0.length → w.cell? (x.add i) = some (.int .u8 (z0.getD i 0))) ∧ ∀ n ∈ z0, (Lit.int .u8 n).wf = true) (y0 : len0 * 1 ≤ 140737488351232) :
  Calls Try.prog 8 #[.slice a0 len0 cap0] w fun e w' => e = .returned (.bool true) ∧ Below w.heap.size w w' := by
 obtain ⟨l0, rfl, hr0, hm0, hw0, hc0⟩ := ReadsInt.ofRowC w0
 obtain ⟨k, h⟩ := P l0 hm0 y0 hw0
 refine (laws_FnTurned.calls k _ _ l0 true w (Kd.C_of_reads (d := (0 : Int)) (h1 := fun _ => rfl) hr0) hc0 rfl h).mono ?_
 rintro e w' ⟨rfl, hd⟩
 exact ⟨rfl, hd⟩

end Go.Proofs.Ytnecbkognpponaa.Q
