import Derived.Test.YthjmdiggglkeaaaXFnStoresQimplnearOk
import Derived.Test.YthjmdiggglkeaaaXFnStoresQspecl01Once
import Derived.Test.YthjmdiggglkeaaaXFnStoresQspecl04Record
import Derived.Test.YthjmdiggglkeaaaXFnStoresQspecSameKey
/- A Go function as a Lean function, and its contract: for every input the Go code comes to what the Lean function tells. -/




namespace Go.Proofs.Ythjmdiggglkeaaa.Q
open Go.RowKit Go.Proofs.YthjmdiggglkeaaaW.PrintWords Go.Proofs.YthjmdiggglkeaaaW.PrintLast Go.Proofs.YthjmdiggglkeaaaW.PrintMore
attribute [local go_sem] max2_int min2_int max_two min_two max_three min_three max_four min_four   -- for this text's walks alone
set_option linter.unusedVariables false
set_option linter.unusedSimpArgs false

/-! ### spec_DrawRecords: function 48 -/
def spec_DrawRecords.l0 : Nat → List (S61) → Int → List Int → Int → Int → Option ((List (S61)))
 | 0, _, _, _, _, _ => none
 | k + 1, x4, x5, x1293000, x1293001, x1293002 => (spec_l01Below.f x1293000 x1293001 x1293002 14).bind fun bt1296 => (if x5 < bt1296.1 then ((spec_l04Record.f k x1293000 bt1296.2.1 bt1296.2.2).bind fun bt1299 => (if x4.length < 1759218604441 then (spec_DrawRecords.l0 k (x4 ++ [(⟨bt1299.1, bt1299.2.1, bt1299.2.2.1, bt1299.2.2.2.1, bt1299.2.2.2.2.1, bt1299.2.2.2.2.2.1, bt1299.2.2.2.2.2.2.1, bt1299.2.2.2.2.2.2.2.1⟩ : S61)]) (wrap64 (x5 + 1)) x1293000 bt1299.2.2.2.2.2.2.2.2.1 bt1299.2.2.2.2.2.2.2.2.2) else (none))) else (some x4))
def spec_DrawRecords.f (k : Nat) (l0 : List Int) : Option ((List (S61))) := (spec_l01New.f k l0).bind fun bt1289 => (spec_DrawRecords.l0 k (([] : List (S61))) 0 bt1289.1 bt1289.2.1 bt1289.2.2)
theorem spec_DrawRecords.mono_l : ∀ k, (∀ y0 y1 y2 y3 y4, LeO (spec_DrawRecords.l0 k y0 y1 y2 y3 y4) (spec_DrawRecords.l0 (k + 1) y0 y1 y2 y3 y4))
 | 0 => fun _ _ _ _ _ r h => by simp [spec_DrawRecords.l0] at h
 | k + 1 => by
  have ih0 := spec_DrawRecords.mono_l k
  ·intro y0 y1 y2 y3 y4
   unfold spec_DrawRecords.l0
   repeat' first
   | (with_reducible exact ih0 _ _ _ _ _)
   | (with_reducible exact spec_l01New.mono _ _)
   | (with_reducible exact spec_l04Record.mono _ _ _ _)
   | (with_reducible exact LeO.refl _)
   | (with_reducible exact LeO.none _)
   | (with_reducible refine LeO.ite ?_ ?_)
   | (with_reducible refine LeO.bind ?_ (fun _ => ?_))
   | exact ih0 _ _ _ _ _
   | exact spec_l01New.mono _ _
   | exact spec_l04Record.mono _ _ _ _
   | exact LeO.none _
   | refine LeO.ite ?_ ?_
   | refine LeO.bind ?_ (fun _ => ?_)
theorem spec_DrawRecords.mono : ∀ a0 k, LeO (spec_DrawRecords.f k a0) (spec_DrawRecords.f (k + 1) a0) := by
 intro a0 k
 have ih0 := spec_DrawRecords.mono_l k
 unfold spec_DrawRecords.f
 repeat' first
   | (with_reducible exact ih0 _ _ _ _ _)
   | (with_reducible exact spec_l01New.mono _ _)
   | (with_reducible exact spec_l04Record.mono _ _ _ _)
   | (with_reducible exact LeO.refl _)
   | (with_reducible exact LeO.none _)
   | (with_reducible refine LeO.ite ?_ ?_)
   | (with_reducible refine LeO.bind ?_ (fun _ => ?_))
   | exact ih0 _ _ _ _ _
   | exact spec_l01New.mono _ _
   | exact spec_l04Record.mono _ _ _ _
   | exact LeO.none _
   | refine LeO.ite ?_ ?_
   | refine LeO.bind ?_ (fun _ => ?_)
set_option maxHeartbeats 8000000 in
set_option maxRecDepth 100000 in
theorem spec_DrawRecords.calls (k : Nat) (A0 : Option Addr) (c0 : Nat) (l0 : List Int) (r : List (S61)) (w : World) (hr0 : Kd.C (Kd.int .u8) w A0 l0.length l0) (hc0 : l0.length ≤ c0) (h : spec_DrawRecords.f k l0 = some r) :
  Calls Try.prog 48 #[.slice A0 l0.length c0] w fun e w' => ∃ v0_ : Value, e = .returned (v0_) ∧ Kd.S k61 61 w' w.heap.size (fun _ => True) v0_ r ∧ Below w.heap.size w w' := by
 have HR0 := Aside0.mk hr0
 have HC0 := Aside0.mk hc0
 clear hr0 hc0
 have HB := Aside0.mk (Below.refl w.heap.size w)
 have H : ((spec_l01New.f k l0).bind fun bt1289 => (spec_DrawRecords.l0 k (([] : List (S61))) 0 bt1289.1 bt1289.2.1 bt1289.2.2)) = some r := h
 clear h
 replace H := Option.bind_eq_some_iff.mp H
 obtain ⟨⟨t1289, t1290, t1291⟩, A20, H⟩ := H
 replace H : (spec_DrawRecords.l0 k (([] : List (S61))) 0 t1289 t1290 t1291) = some r := H
 have A2 := Aside0.mk A20
 clear A20
 obtain ⟨y1293, hy1293⟩ : ∃ y_ : List (S61), y_ = (([] : List (S61))) := ⟨_, rfl⟩
 replace H : (spec_DrawRecords.l0 k y1293 0 t1289 t1290 t1291) = some r := by first | (rw [hy1293]; with_reducible exact H) | (have H2_ := (Option.bind_some _ _).symm.trans H; rw [hy1293]; with_reducible exact H2_) | (have H2_ := (Option.bind_some _ _).symm.trans H; with_reducible exact H2_) | with_reducible exact H | (rw [hy1293]; exact H) | exact H
 have Ny1293 := Aside0.mk hy1293
 clear hy1293
 have H' := Aside0.mk H
 clear H
 go_enter Try.func48, Try.ntmps48
 go_wp2_with (first | ((with_reducible refine gate_callee (f := 114) rfl ?_); refine goesL_ (some 7) rfl rfl Try.func114 (by kernel_rfl) rfl #[.slice A0 l0.length c0] rfl mp_q ?_; (with_reducible refine (spec_l01New.calls k _ _ l0 t1289 t1290 t1291 w _ ?side1 ?side2 ?side3 A2.out).mono ?_); (case side1 => repeat (first | (with_reducible first | exact HB.out | apply below_alloc | apply pw_below_drewN | apply below_drew1) | exact HB.out)); (case side2 => exact HR0.out); (case side3 => exact HC0.out); rintro e w3 ⟨g1292, rfl, hi, hb, hb2⟩; refine ⟨_, rfl, ?_⟩; replace HB := Aside0.mk (hb); have HI1292 := Aside0.mk (hi); (try clear hb); (try clear hb2); (try clear hk); (try clear hi)) | ((with_reducible refine gate_dst (N := 8) rfl ?_); refine Kd.S_lit k61 _ 61 ?hg (N := 8) ?hd (xs := ([] : List (S61))) (inner := []) (ok := fun _ => True) (okp := fun _ => True) ?hr ?hp (fun _ hk => hk) trivial (Below.refl _ _) (Nat.le_refl _) (by simp) ?_; (case hd => rfl); (case hg => rfl); (case hr => first | (go_simp; done) | (go_simp; rfl)); (case hp => exact (Reps.none _ _)); intro v1294 w4 ho5 hb hg_ hnew_; clear hg_ hnew_; (first | rw [← Ny1293.out] at ho5 | (simp only [Int.reduceToNat] at ho5; rw [← Ny1293.out] at ho5)); have HO1295 := Aside0.mk (Kd.S_lower ho5 (below_size (by repeat (first | (with_reducible first | exact HB.out | apply below_alloc | apply pw_below_drewN | apply below_drew1 | refine below_set ?_ (IsS144.ge HI1292.out)) | exact HB.out)))); replace HB := Aside0.mk (below_step (by repeat (first | (with_reducible first | exact HB.out | apply below_alloc | apply pw_below_drewN | apply below_drew1 | refine below_set ?_ (IsS144.ge HI1292.out)) | exact HB.out)) hb); replace HI1292 := Aside0.mk (IsS144.below (by repeat (first | (with_reducible first | exact HI1292.out | apply IsS144.alloc | apply IsS144.drewN | apply IsS144.drew | apply IsS144.set_1 | apply IsS144.set_2) | exact HI1292.out)) hb); clear hb ho5))
 go_loopg [4, 5] k (fun kq v4 v5 w' => ∃ (x4_1 : List (S61)) (x5_1 : Int) (x1293001_1 : Int) (x1293002_1 : Int), v5 = .int .i64 x5_1 ∧ Aside0 (spec_DrawRecords.l0 kq x4_1 x5_1 t1289 x1293001_1 x1293002_1 = some r) ∧ Aside0 (kq ≤ k) ∧ Aside0 (Kd.S k61 61 w' w.heap.size (fun _ => True) v4 x4_1) ∧ Aside0 (IsS144 w w' g1292 t1289 x1293001_1 x1293002_1) ∧ Aside0 (Below w.heap.size w w'))
 case atStart => exact ⟨(y1293), (0), (t1290), (t1291), (by first | rfl | (simp; done) | (simp [*]; done)), H', ⟨Nat.le_refl _⟩, ⟨by (with_reducible repeat (first | apply Kd.S_alloc | apply Kd.S_drewN | apply Kd.S_drew)); exact HO1295.out⟩, ⟨by repeat (first | (with_reducible first | exact HI1292.out | apply IsS144.alloc | apply IsS144.drewN | apply IsS144.drew | apply IsS144.set_1 | apply IsS144.set_2) | exact HI1292.out)⟩, ⟨by repeat (first | (with_reducible first | exact HB.out | apply below_alloc | apply pw_below_drewN | apply below_drew1 | refine below_set ?_ (IsS144.ge HI1292.out)) | exact HB.out)⟩⟩
 case round =>
  clear H'
  try clear c1
  try clear p2
  try clear c4
  obtain ⟨x4_1, x5_1, x1293001_1, x1293002_1, rfl, HA, HK1, HO_4, HI1292, HB⟩ := hrel
  cases gk with
  | zero => exact absurd HA.out (by simp [spec_DrawRecords.l0])
  | succ k1 =>
   have H := HA.out
   clear HA
   simp only [spec_DrawRecords.l0] at H
   replace H := Option.bind_eq_some_iff.mp H
   obtain ⟨⟨t1296, t1297, t1298⟩, A60, H⟩ := H
   replace H : (if x5_1 < t1296 then ((spec_l04Record.f k1 t1289 t1297 t1298).bind fun bt1299 => (if x4_1.length < 1759218604441 then (spec_DrawRecords.l0 k1 (x4_1 ++ [(⟨bt1299.1, bt1299.2.1, bt1299.2.2.1, bt1299.2.2.2.1, bt1299.2.2.2.2.1, bt1299.2.2.2.2.2.1, bt1299.2.2.2.2.2.2.1, bt1299.2.2.2.2.2.2.2.1⟩ : S61)]) (wrap64 (x5_1 + 1)) t1289 bt1299.2.2.2.2.2.2.2.2.1 bt1299.2.2.2.2.2.2.2.2.2) else (none))) else (some x4_1)) = some r := H
   have A6 := Aside0.mk A60
   clear A60
   have HC7 := Aside0.mk H
   clear H
   go_upto_if 12 with (first | ((with_reducible refine gate_callee (f := 115) rfl ?_); refine goesL_ (some 11) rfl rfl Try.func115 (by kernel_rfl) rfl #[.pointer (some ⟨g1292, 0, none⟩), .int .i64 14] rfl mp_q ?_; (with_reducible refine (spec_l01Below.calls g1292 t1289 x1293001_1 x1293002_1 14 t1296 t1297 t1298 w _ ?side1 ?side2 A6.out).mono ?_); (case side1 => repeat (first | (with_reducible first | exact HI1292.out | apply IsS144.alloc | apply IsS144.drewN | apply IsS144.drew | apply IsS144.set_1 | apply IsS144.set_2) | exact HI1292.out)); (case side2 => repeat (first | (with_reducible first | exact HB.out | apply below_alloc | apply pw_below_drewN | apply below_drew1 | refine below_set ?_ (IsS144.ge HI1292.out)) | exact HB.out)); rintro e w8 ⟨rfl, hi, hb, hk⟩; refine ⟨_, rfl, ?_⟩; replace HO_4 := Aside0.mk (Kd.S_mono (Kd.S_keep (IsS144.apartS (show IsS144 w _ g1292 t1289 x1293001_1 x1293002_1 from by repeat (first | (with_reducible first | exact HI1292.out | apply IsS144.alloc | apply IsS144.drewN | apply IsS144.drew | apply IsS144.set_1 | apply IsS144.set_2) | exact HI1292.out)) (kS_q HO_4) (by decide)) hk (fun _ h => h.2)) (fun _ h => h.1)); replace HB := Aside0.mk (hb); replace HI1292 := Aside0.mk (hi); (try clear hb); (try clear hb2); (try clear hk); (try clear hi)))
   have H := HC7.out
   clear HC7
   by_cases c9 : x5_1 < t1296
   ·rw [if_pos c9] at H
    have c9b0 : decide (x5_1 < t1296) = true := decide_eq_true c9
    clear c9
    (first | rw [c9b0] | rw [c9b1] | (simp only [i64_w, i32_w]; first | rw [c9b0] | rw [c9b1]) | skip)
    replace H := Option.bind_eq_some_iff.mp H
    obtain ⟨⟨t1299, t1300, t1301, t1302, t1303, t1304, t1307, t1308, t1309, t1310⟩, A100, H⟩ := H
    replace H : (if x4_1.length < 1759218604441 then (spec_DrawRecords.l0 k1 (x4_1 ++ [(⟨t1299, t1300, t1301, t1302, t1303, t1304, t1307, t1308⟩ : S61)]) (wrap64 (x5_1 + 1)) t1289 t1309 t1310) else (none)) = some r := H
    have A10 := Aside0.mk A100
    clear A100
    by_cases c11 : x4_1.length < 1759218604441
    ·rw [if_pos c11] at H
     have LMc11 := Aside0.mk c11
     clear c11
     obtain ⟨y1311, hy1311⟩ : ∃ y_ : List (S61), y_ = (x4_1 ++ [(⟨t1299, t1300, t1301, t1302, t1303, t1304, t1307, t1308⟩ : S61)]) := ⟨_, rfl⟩
     replace H : (spec_DrawRecords.l0 k1 y1311 (wrap64 (x5_1 + 1)) t1289 t1309 t1310) = some r := by first | (rw [hy1311]; with_reducible exact H) | (have H2_ := (Option.bind_some _ _).symm.trans H; rw [hy1311]; with_reducible exact H2_) | (have H2_ := (Option.bind_some _ _).symm.trans H; with_reducible exact H2_) | with_reducible exact H | (rw [hy1311]; exact H) | exact H
     have Ny1311 := Aside0.mk hy1311
     clear hy1311
     have H' := Aside0.mk H
     clear H
     go_wp2_with (first | ((with_reducible refine gate_callee (f := 116) rfl ?_); refine goesL_ (some 17) rfl rfl Try.func116 (by kernel_rfl) rfl #[.pointer (some ⟨g1292, 0, none⟩)] rfl mp_q ?_; (with_reducible refine (spec_l04Record.calls k1 g1292 t1289 t1297 t1298 t1299 t1300 t1301 t1302 t1303 t1304 t1307 t1308 t1309 t1310 w _ ?side1 ?side2 A10.out).mono ?_); (case side1 => repeat (first | (with_reducible first | exact HI1292.out | apply IsS144.alloc | apply IsS144.drewN | apply IsS144.drew | apply IsS144.set_1 | apply IsS144.set_2) | exact HI1292.out)); (case side2 => repeat (first | (with_reducible first | exact HB.out | apply below_alloc | apply pw_below_drewN | apply below_drew1 | refine below_set ?_ (IsS144.ge HI1292.out)) | exact HB.out)); rintro e w12 ⟨v1305, rfl, ho0, hi, hb, hk⟩; refine ⟨_, rfl, ?_⟩; replace HO_4 := Aside0.mk (Kd.S_mono (Kd.S_told (Kd.S_oldK (IsS144.apartS (show IsS144 w _ g1292 t1289 t1297 t1298 from by repeat (first | (with_reducible first | exact HI1292.out | apply IsS144.alloc | apply IsS144.drewN | apply IsS144.drew | apply IsS144.set_1 | apply IsS144.set_2) | exact HI1292.out)) (kS_q HO_4) (by decide)) hk) (Kd.R_base ho0)) (fun _ h_ => h_.1)); have HO1306 := Aside0.mk (Kd.R_lower ho0 (below_size (by repeat (first | (with_reducible first | exact HB.out | apply below_alloc | apply pw_below_drewN | apply below_drew1 | refine below_set ?_ (IsS144.ge HI1292.out)) | exact HB.out)))); replace HB := Aside0.mk (hb); replace HI1292 := Aside0.mk (hi); (try clear hb); (try clear hb2); (try clear hk); (try clear hi); (try clear ho0); obtain ⟨Ao14, co14, eo14⟩ := Kd.R_slice HO1306.out; subst eo14) | ((with_reducible refine gate_builtin (b := .append) (xs := #[.tmp 15, .tmp 18]) rfl ?_); at_builtin; refine Kd.S_append k61 (w0 := w) w.heap.size rfl (.tmp 15) (.tmp 18) 41 61 (.agg #[(.int .i64 0), (.int .i64 0), (.int .i64 0), (.int .i64 0), (.int .i64 0), (.slice none 0 0), (.int .i64 0), (.bool false)]) 80 rfl Try.underlying41 info61 rfl (by decide) (by omega) u4 x4_1 (⟨t1299, t1300, t1301, t1302, t1303, t1304, t1307, t1308⟩ : S61) [.int .i64 t1299, .int .i64 t1300, .int .i64 t1301, .int .i64 t1302, .int .i64 t1303, .slice Ao14 t1304.length co14, .int .i64 t1307, .bool t1308] (fun _ => True) (fun k_ => some k_ = (.slice Ao14 t1304.length co14 : Value).ownBlock) rfl rfl ?aP (fun k_ hk_ => ((Kd.R_mono (ok' := fun k_ => ((fun _ => True)) k_ ∧ some k_ ≠ (u4 : Value).ownBlock) (Kd.R_apart' (HO1306.out) (Kd.S_typed HO_4.out) (by decide)) (fun k_ hk => ⟨trivial, hk.2⟩))).1 k_ hk_.symm) ?aF ?aO ?aB ?aS ?aL ?_; (case aP => exact k61_mkM _ _ _ (⟨t1299, t1300, t1301, t1302, t1303, t1304, t1307, t1308⟩ : S61) (Kd.R_mono (Kd.R_tight rfl (Kd.R_mono (ok' := fun k_ => ((fun _ => True)) k_ ∧ some k_ ≠ (u4 : Value).ownBlock) (Kd.R_apart' (HO1306.out) (Kd.S_typed HO_4.out) (by decide)) (fun k_ hk => ⟨trivial, hk.2⟩))) (fun _ h_ => h_))); (case aB => exact (by repeat (first | (with_reducible first | exact HB.out | apply below_alloc | apply pw_below_drewN | apply below_drew1 | refine below_set ?_ (IsS144.ge HI1292.out)) | exact HB.out))); (case aF => exact (fun _ _ => trivial)); (case aO => exact (by (with_reducible repeat (first | apply Kd.S_alloc | apply Kd.S_drewN | apply Kd.S_drew)); exact Kd.S_mono HO_4.out (fun k_ hk => ⟨trivial, fun e_ => hk.2 e_⟩))); (case aS => exact (below_size (by repeat (first | (with_reducible first | exact HB.out | apply below_alloc | apply pw_below_drewN | apply below_drew1 | refine below_set ?_ (IsS144.ge HI1292.out)) | exact HB.out)))); (case aL => have := LMc11.out; omega); intro v1312 w13 ho hb hg hat; rw [← Ny1311.out] at ho; replace HI1292 := Aside0.mk (IsS144.grown (by repeat (first | (with_reducible first | exact HI1292.out | apply IsS144.alloc | apply IsS144.drewN | apply IsS144.drew | apply IsS144.set_1 | apply IsS144.set_2) | exact HI1292.out)) hg (IsS144.own_neS HI1292.out HO_4.out (by decide))); replace HB := Aside0.mk (hb); have HO1313 := Aside0.mk (ho); clear HO_4 HO1306; clear ho hb hg hat))
     go_roundg k1
     case measure => have := HK1.out; omega
     case rel => exact ⟨(y1311), (wrap64 (x5_1 + 1)), (t1309), (t1310), (by first | rfl | (simp; done) | (simp [*]; done)), H', ⟨by have := HK1.out; omega⟩, ⟨by (with_reducible repeat (first | apply Kd.S_alloc | apply Kd.S_drewN | apply Kd.S_drew)); exact HO1313.out⟩, ⟨by repeat (first | (with_reducible first | exact HI1292.out | apply IsS144.alloc | apply IsS144.drewN | apply IsS144.drew | apply IsS144.set_1 | apply IsS144.set_2) | exact HI1292.out)⟩, ⟨by repeat (first | (with_reducible first | exact HB.out | apply below_alloc | apply pw_below_drewN | apply below_drew1 | refine below_set ?_ (IsS144.ge HI1292.out)) | exact HB.out)⟩⟩
    ·rw [if_neg c11] at H
     exact absurd H (by simp)
   ·rw [if_neg c9] at H
    have c9b0 : decide (x5_1 < t1296) = false := decide_eq_false c9
    clear c9
    (first | rw [c9b0] | rw [c9b1] | (simp only [i64_w, i32_w]; first | rw [c9b0] | rw [c9b1]) | skip)
    obtain rfl := Option.some.inj H
    go_wp2
    go_ret
    exact ⟨_, er_q, by (with_reducible repeat (first | apply Kd.S_alloc | apply Kd.S_drewN | apply Kd.S_drew)); exact HO_4.out, by repeat (first | (with_reducible first | exact HB.out | apply below_alloc | apply pw_below_drewN | apply below_drew1 | refine below_set ?_ (IsS144.ge HI1292.out)) | exact HB.out)⟩

end Go.Proofs.Ythjmdiggglkeaaa.Q

/- A Go function as a Lean function, and its contract: for every input the Go code comes to what the Lean function tells. -/


namespace Go.Proofs.Ythjmdiggglkeaaa.Q
open Go.RowKit Go.Proofs.YthjmdiggglkeaaaW.PrintWords Go.Proofs.YthjmdiggglkeaaaW.PrintLast Go.Proofs.YthjmdiggglkeaaaW.PrintMore
attribute [local go_sem] max2_int min2_int max_two min_two max_three min_three max_four min_four   -- for this text's walks alone
set_option linter.unusedVariables false
set_option linter.unusedSimpArgs false

/-! ### laws_newest: function 49 -/
def laws_newest.l0 : Nat → List (S61) → Int → Int → Int → Int → Int → Int → Int → List (S127) → Int → Bool → Option (Int)
 | 0, _, _, _, _, _, _, _, _, _, _, _ => none
 | k + 1, x0, x5, x6, x1315000, x1315001, x1315002, x1315003, x1315004, x1315005, x1315006, x1315007 => if x6 < (x0.length : Int) then (if 0 ≤ x6 then ((spec_SameKey.f ((rd_T61 x0 x6).f0) ((rd_T61 x0 x6).f1) ((rd_T61 x0 x6).f2) ((rd_T61 x0 x6).f3) ((rd_T61 x0 x6).f4) ((rd_T61 x0 x6).f5) ((rd_T61 x0 x6).f6) ((rd_T61 x0 x6).f7) x1315000 x1315001 x1315002 x1315003 x1315004 x1315005 x1315006 x1315007).bind fun t1316 => (if t1316 = true then (if ((rd_T61 x0 x6).f4) > x5 then (laws_newest.l0 k x0 ((rd_T61 x0 x6).f4) (wrap64 (x6 + 1)) x1315000 x1315001 x1315002 x1315003 x1315004 x1315005 x1315006 x1315007) else (laws_newest.l0 k x0 x5 (wrap64 (x6 + 1)) x1315000 x1315001 x1315002 x1315003 x1315004 x1315005 x1315006 x1315007)) else (laws_newest.l0 k x0 x5 (wrap64 (x6 + 1)) x1315000 x1315001 x1315002 x1315003 x1315004 x1315005 x1315006 x1315007))) else (none)) else (some x5)
def laws_newest.f (k : Nat) (l0 : List (S61)) (a1_0 : Int) (a1_1 : Int) (a1_2 : Int) (a1_3 : Int) (a1_4 : Int) (l1_5 : List (S127)) (a1_6 : Int) (a1_7 : Bool) : Option (Int) := laws_newest.l0 k l0 0 0 a1_0 a1_1 a1_2 a1_3 a1_4 l1_5 a1_6 a1_7
theorem laws_newest.mono_l : ∀ k, (∀ y0 y1 y2 y3 y4 y5 y6 y7 y8 y9 y10, LeO (laws_newest.l0 k y0 y1 y2 y3 y4 y5 y6 y7 y8 y9 y10) (laws_newest.l0 (k + 1) y0 y1 y2 y3 y4 y5 y6 y7 y8 y9 y10))
 | 0 => fun _ _ _ _ _ _ _ _ _ _ _ r h => by simp [laws_newest.l0] at h
 | k + 1 => by
  have ih0 := laws_newest.mono_l k
  ·intro y0 y1 y2 y3 y4 y5 y6 y7 y8 y9 y10
   unfold laws_newest.l0
   repeat' first
   | (with_reducible exact ih0 _ _ _ _ _ _ _ _ _ _ _)
   | (with_reducible exact LeO.refl _)
   | (with_reducible exact LeO.none _)
   | (with_reducible refine LeO.ite ?_ ?_)
   | (with_reducible refine LeO.bind ?_ (fun _ => ?_))
   | exact ih0 _ _ _ _ _ _ _ _ _ _ _
   | exact LeO.none _
   | refine LeO.ite ?_ ?_
   | refine LeO.bind ?_ (fun _ => ?_)
theorem laws_newest.mono : ∀ a0 a1 a2 a3 a4 a5 a6 a7 a8 k, LeO (laws_newest.f k a0 a1 a2 a3 a4 a5 a6 a7 a8) (laws_newest.f (k + 1) a0 a1 a2 a3 a4 a5 a6 a7 a8) := by
 intro a0 a1 a2 a3 a4 a5 a6 a7 a8 k
 have ih0 := laws_newest.mono_l k
 unfold laws_newest.f
 repeat' first
   | (with_reducible exact ih0 _ _ _ _ _ _ _ _ _ _ _)
   | (with_reducible exact LeO.refl _)
   | (with_reducible exact LeO.none _)
   | (with_reducible refine LeO.ite ?_ ?_)
   | (with_reducible refine LeO.bind ?_ (fun _ => ?_))
   | exact ih0 _ _ _ _ _ _ _ _ _ _ _
   | exact LeO.none _
   | refine LeO.ite ?_ ?_
   | refine LeO.bind ?_ (fun _ => ?_)
def laws_newest.T5 : Bool × List (List Nat × List Nat) := (true, [([], []), ([], []), ([0, 1], [0, 1]), ([2], [2]), ([], []), ([3, 4], [3, 4]), ([5, 5], [5]), ([6], [6]), ([6], [6]), ([7, 8, 6], [6, 7, 8]), ([9, 6], [6, 9]), ([10, 6], [6, 10]), ([6], [6]), ([11, 12, 6], [6, 11, 12]), ([6, 13], [6, 13])])
def laws_newest.B5 : List Nat := [0, 0, 3, 7, 0, 31, 63, 127, 127, 511, 1023, 2047, 127, 8191, 16383]
theorem laws_newest.tab5 : rtab .any (opsOf Try.f49 5) = laws_newest.T5 := by kernel_rfl
theorem laws_newest.bits5 : waitsOk laws_newest.T5.2 laws_newest.B5 = true := by kernel_rfl
set_option maxHeartbeats 8000000 in
set_option maxRecDepth 100000 in
theorem laws_newest.calls (k : Nat) (A0 : Option Addr) (c0 : Nat) (l0 : List (S61)) (a1_0 : Int) (a1_1 : Int) (a1_2 : Int) (a1_3 : Int) (a1_4 : Int) (A1_5 : Option Addr) (c1_5 : Nat) (l1_5 : List (S127)) (a1_6 : Int) (a1_7 : Bool) (r : Int) (w : World) (hr0 : Kd.C k61 w A0 l0.length l0) (hc0 : l0.length ≤ c0) (hr1_5 : Kd.C k127 w A1_5 l1_5.length l1_5) (hc1_5 : l1_5.length ≤ c1_5) (h : laws_newest.f k l0 a1_0 a1_1 a1_2 a1_3 a1_4 l1_5 a1_6 a1_7 = some r) :
  Calls Try.prog 49 #[.slice A0 l0.length c0, .agg #[.int .i64 a1_0, .int .i64 a1_1, .int .i64 a1_2, .int .i64 a1_3, .int .i64 a1_4, .slice A1_5 l1_5.length c1_5, .int .i64 a1_6, .bool a1_7]] w fun e w' => e = .returned (.int .i64 r) ∧ Below w.heap.size w w' := by
 have hu61 := Try.underlying61
 have HR0 := Aside0.mk hr0
 have HC0 := Aside0.mk hc0
 clear hr0 hc0
 have HR1_5 := Aside0.mk hr1_5
 have HC1_5 := Aside0.mk hc1_5
 clear hr1_5 hc1_5
 have HB := Aside0.mk (Below.refl w.heap.size w)
 have H : (laws_newest.l0 k l0 0 0 a1_0 a1_1 a1_2 a1_3 a1_4 l1_5 a1_6 a1_7) = some r := h
 clear h
 have H' := Aside0.mk H
 clear H
 go_enter Try.func49, Try.ntmps49
 go_wp2_with (first | ((with_reducible refine gate_dst (N := 3) rfl ?_); refine box_q 3 #[.int .i64 a1_0, .int .i64 a1_1, .int .i64 a1_2, .int .i64 a1_3, .int .i64 a1_4, .slice A1_5 l1_5.length c1_5, .int .i64 a1_6, .bool a1_7] 61 ?_; intro gb1314 hg w3 hbox hb; have BK1314 := Aside0.mk (hbox); have GW1314 := Aside0.mk ((by rw [hg]; exact (below_size (bw_q HB)) : w.heap.size ≤ gb1314)); have GE1314 := Aside0.mk ((by rw [hg]; exact (below_size (bw_q HB)) : w.heap.size ≤ gb1314)); replace HB := Aside0.mk (below_step (bw_q HB) hb); clear hb hbox hg))
 go_loopg [5, 6] k (fun kq v5 v6 w' => ∃ (x5_1 : Int) (x6_1 : Int), v5 = .int .i64 x5_1 ∧ v6 = .int .i64 x6_1 ∧ Aside0 (laws_newest.l0 kq l0 x5_1 x6_1 a1_0 a1_1 a1_2 a1_3 a1_4 l1_5 a1_6 a1_7 = some r) ∧ Aside0 (kq ≤ k) ∧ Aside0 (w'.heap[gb1314]? = some (.cells #[.int .i64 a1_0, .int .i64 a1_1, .int .i64 a1_2, .int .i64 a1_3, .int .i64 a1_4, (.slice A1_5 l1_5.length c1_5), .int .i64 a1_6, .bool a1_7] 61 (0, 0))) ∧ Aside0 (Below w.heap.size w w'))
 case atStart => exact ⟨(0), (0), (by first | rfl | (simp; done) | (simp [*]; done)), (by first | rfl | (simp; done) | (simp [*]; done)), H', ⟨Nat.le_refl _⟩, ⟨by refine bz_ ?_; exact BK1314.out⟩, ⟨bw_q HB⟩⟩
 case round =>
  clear H'
  try clear c1
  try clear p2
  obtain ⟨x5_1, x6_1, rfl, rfl, HA, HK1, BK1314, HB⟩ := hrel
  cases gk with
  | zero => exact absurd HA.out (by simp [laws_newest.l0])
  | succ k1 =>
   have H := HA.out
   clear HA
   simp only [laws_newest.l0] at H
   by_cases c4 : x6_1 < (l0.length : Int)
   ·rw [if_pos c4] at H
    have c4b0 : decide (x6_1 < (l0.length : Int)) = true := decide_eq_true c4
    clear c4
    by_cases c5 : 0 ≤ x6_1
    ·rw [if_pos c5] at H
     have c5b0 : decide (0 ≤ x6_1) = true := decide_eq_true c5
     clear c5
     replace H := Option.bind_eq_some_iff.mp H
     obtain ⟨t1316, A60, H⟩ := H
     replace H : (if t1316 = true then (if ((rd_T61 l0 x6_1).f4) > x5_1 then (laws_newest.l0 k1 l0 ((rd_T61 l0 x6_1).f4) (wrap64 (x6_1 + 1)) a1_0 a1_1 a1_2 a1_3 a1_4 l1_5 a1_6 a1_7) else (laws_newest.l0 k1 l0 x5_1 (wrap64 (x6_1 + 1)) a1_0 a1_1 a1_2 a1_3 a1_4 l1_5 a1_6 a1_7)) else (laws_newest.l0 k1 l0 x5_1 (wrap64 (x6_1 + 1)) a1_0 a1_1 a1_2 a1_3 a1_4 l1_5 a1_6 a1_7)) = some r := H
     have A6 := Aside0.mk A60
     clear A60
     have HZ23 := Aside0.mk H
     clear H
     try go_wp2
     replace BK1314 := Aside0.mk (blk_drew BK1314.out)
     replace HB := Aside0.mk (below_drew1 HB.out)
     have p1315 : 0 ≤ (x6_1 : Int) := of_decide_eq_true as_q
     have q1315 : x6_1 < (l0.length : Int) := of_decide_eq_true as_q
     obtain ⟨ad1315, A1315_5, c1315_5, e1315, hx1315_0, hx1315_1, hx1315_2, hx1315_3, hx1315_4, hx1315_5, hx1315_6, hx1315_7, hl1315_5, hi1315_5⟩ := at_T61 HR0.out x6_1 p1315 q1315
     have hw1315_7 := hx1315_7
     have hw1315_6 := hx1315_6
     have hw1315_5 := hx1315_5
     have hw1315_4 := hx1315_4
     have hw1315_3 := hx1315_3
     have hw1315_2 := hx1315_2
     have hw1315_1 := hx1315_1
     have hw1315_0 := hx1315_0
     cases e1315
     replace hx1315_0 := (HB.out.cell (World.block_lt_of_cell? w _ hx1315_0)).trans hx1315_0
     replace hx1315_1 := (HB.out.cell (World.block_lt_of_cell? w _ hx1315_1)).trans hx1315_1
     replace hx1315_2 := (HB.out.cell (World.block_lt_of_cell? w _ hx1315_2)).trans hx1315_2
     replace hx1315_3 := (HB.out.cell (World.block_lt_of_cell? w _ hx1315_3)).trans hx1315_3
     replace hx1315_4 := (HB.out.cell (World.block_lt_of_cell? w _ hx1315_4)).trans hx1315_4
     replace hx1315_5 := (HB.out.cell (World.block_lt_of_cell? w _ hx1315_5)).trans hx1315_5
     replace hx1315_6 := (HB.out.cell (World.block_lt_of_cell? w _ hx1315_6)).trans hx1315_6
     replace hx1315_7 := (HB.out.cell (World.block_lt_of_cell? w _ hx1315_7)).trans hx1315_7
     have HR1315_5 := Aside0.mk hi1315_5
     have HC1315_5 := Aside0.mk hl1315_5
     clear hi1315_5 hl1315_5
     replace p1315 := eq_true p1315
     replace q1315 := eq_true q1315
     refine start_ (n := 15) (S := fun w' => w'.cell? ⟨gb1314, 0, none⟩ = some (.int .i64 a1_0) ∧ w'.cell? ⟨gb1314, 1, none⟩ = some (.int .i64 a1_1) ∧ w'.cell? ⟨gb1314, 2, none⟩ = some (.int .i64 a1_2) ∧ w'.cell? ⟨gb1314, 3, none⟩ = some (.int .i64 a1_3) ∧ w'.cell? ⟨gb1314, 4, none⟩ = some (.int .i64 a1_4) ∧ w'.cell? ⟨gb1314, 5, none⟩ = some (.slice A1_5 l1_5.length c1_5) ∧ w'.cell? ⟨gb1314, 6, none⟩ = some (.int .i64 a1_6) ∧ w'.cell? ⟨gb1314, 7, none⟩ = some (.bool a1_7) ∧ w'.cell? (ad1315.add ((x6_1).toNat * 8)) = some (.int .i64 ((rd_T61 l0 x6_1).f0)) ∧ w'.cell? ⟨(ad1315.add ((x6_1).toNat * 8)).block, (ad1315.add ((x6_1).toNat * 8)).off + 1, none⟩ = some (.int .i64 ((rd_T61 l0 x6_1).f1)) ∧ w'.cell? ⟨(ad1315.add ((x6_1).toNat * 8)).block, (ad1315.add ((x6_1).toNat * 8)).off + 2, none⟩ = some (.int .i64 ((rd_T61 l0 x6_1).f2)) ∧ w'.cell? ⟨(ad1315.add ((x6_1).toNat * 8)).block, (ad1315.add ((x6_1).toNat * 8)).off + 3, none⟩ = some (.int .i64 ((rd_T61 l0 x6_1).f3)) ∧ w'.cell? ⟨(ad1315.add ((x6_1).toNat * 8)).block, (ad1315.add ((x6_1).toNat * 8)).off + 4, none⟩ = some (.int .i64 ((rd_T61 l0 x6_1).f4)) ∧ w'.cell? ⟨(ad1315.add ((x6_1).toNat * 8)).block, (ad1315.add ((x6_1).toNat * 8)).off + 5, none⟩ = some (.slice A1315_5 ((rd_T61 l0 x6_1).f5).length c1315_5) ∧ w'.cell? ⟨(ad1315.add ((x6_1).toNat * 8)).block, (ad1315.add ((x6_1).toNat * 8)).off + 6, none⟩ = some (.int .i64 ((rd_T61 l0 x6_1).f6)) ∧ w'.cell? ⟨(ad1315.add ((x6_1).toNat * 8)).block, (ad1315.add ((x6_1).toNat * 8)).off + 7, none⟩ = some (.bool ((rd_T61 l0 x6_1).f7))) (ds := []) (bL 15 0) (by kernel_rfl) rfl rfl ⟨(blk_cell BK1314.out 0).trans rfl, (blk_cell BK1314.out 1).trans rfl, (blk_cell BK1314.out 2).trans rfl, (blk_cell BK1314.out 3).trans rfl, (blk_cell BK1314.out 4).trans rfl, (blk_cell BK1314.out 5).trans rfl, (blk_cell BK1314.out 6).trans rfl, (blk_cell BK1314.out 7).trans rfl, ((HB.out.cell (World.block_lt_of_cell? w _ hw1315_0)).trans hw1315_0), ((HB.out.cell (World.block_lt_of_cell? w _ hw1315_1)).trans hw1315_1), ((HB.out.cell (World.block_lt_of_cell? w _ hw1315_2)).trans hw1315_2), ((HB.out.cell (World.block_lt_of_cell? w _ hw1315_3)).trans hw1315_3), ((HB.out.cell (World.block_lt_of_cell? w _ hw1315_4)).trans hw1315_4), ((HB.out.cell (World.block_lt_of_cell? w _ hw1315_5)).trans hw1315_5), ((HB.out.cell (World.block_lt_of_cell? w _ hw1315_6)).trans hw1315_6), ((HB.out.cell (World.block_lt_of_cell? w _ hw1315_7)).trans hw1315_7)⟩ (fun hHeld => ?_); refine with_tabW laws_newest.tab5 laws_newest.bits5 (fun HT_ HW_ => ?_)
     generalize wr.drew = w9 at BK1314 HB HR1315_5 hx1315_0 hx1315_1 hx1315_2 hx1315_3 hx1315_4 hx1315_5 hx1315_6 hx1315_7 hHeld ⊢
     refine pq_ 0 13 (bL 15 1) HT_.out rfl rfl ?_
     refine pq_ 1 14 (bL 15 3) HT_.out rfl rfl ?_
     refine pq_ 2 15 (bL 15 7) HT_.out rfl rfl ?_
     refine take_ (i := 3) (N := some 16) (v := ?_) (a' := ?_) (bL 15 15) rfl rfl (take_ofW HT_.out HW_.out (by kernel_rfl)) (fun _ _ _ h => h) (Or.inl ⟨by rfl, ?_⟩) hHeld ?_ ?_; rotate_left; (rintro w' ⟨s0, s1, s2, s3, s4, s5, s6, s7, s8, s9, s10, s11, s12, s13, s14, s15⟩; go_simp; with_reducible rfl); rotate_left; (exact put_q)
     refine take_ (i := 4) (N := some 17) (v := ?_) (a' := ?_) (bL 15 31) rfl rfl (take_ofW HT_.out HW_.out (by kernel_rfl)) (fun _ _ _ h => h) (Or.inl ⟨by rfl, ?_⟩) hHeld ?_ ?_; rotate_left; (rintro w' ⟨s0, s1, s2, s3, s4, s5, s6, s7, s8, s9, s10, s11, s12, s13, s14, s15⟩; go_simp; with_reducible rfl); rotate_left; (exact put_q)
     refine one_ (i := 5) (N := some 18) (bL 15 63) rfl rfl (one_of HT_.out (by kernel_rfl)) (by decide) (fun K hK => ?_)
     refine goes_ Try.func52 (by kernel_rfl) rfl #[.agg #[.int .i64 ((rd_T61 l0 x6_1).f0), .int .i64 ((rd_T61 l0 x6_1).f1), .int .i64 ((rd_T61 l0 x6_1).f2), .int .i64 ((rd_T61 l0 x6_1).f3), .int .i64 ((rd_T61 l0 x6_1).f4), .slice A1315_5 ((rd_T61 l0 x6_1).f5).length c1315_5, .int .i64 ((rd_T61 l0 x6_1).f6), .bool ((rd_T61 l0 x6_1).f7)], .agg #[.int .i64 a1_0, .int .i64 a1_1, .int .i64 a1_2, .int .i64 a1_3, .int .i64 a1_4, .slice A1_5 l1_5.length c1_5, .int .i64 a1_6, .bool a1_7]] (by rfl) rfl rfl mp_q ?_
     with_reducible refine (spec_SameKey.calls ((rd_T61 l0 x6_1).f0) ((rd_T61 l0 x6_1).f1) ((rd_T61 l0 x6_1).f2) ((rd_T61 l0 x6_1).f3) ((rd_T61 l0 x6_1).f4) _ _ ((rd_T61 l0 x6_1).f5) ((rd_T61 l0 x6_1).f6) ((rd_T61 l0 x6_1).f7) a1_0 a1_1 a1_2 a1_3 a1_4 _ _ l1_5 a1_6 a1_7 t1316 _ ?side1 ?side2 ?side3 ?side4 A6.out).mono ?_
     (case side1 => exact cs_q (Kd.C_below HR1315_5.out HB.out))
     (case side2 => exact HC1315_5.out)
     (case side3 => exact cs_q (Kd.C_below HR1_5.out HB.out))
     (case side4 => exact HC1_5.out)
     rintro e w10 ⟨rfl, hb⟩
     refine ⟨_, rfl, ?_⟩
     replace BK1314 := Aside0.mk (blk_below (g := gb1314) (bk_q BK1314) hb)
     replace HB := Aside0.mk (below_step (bw_q HB) hb)
     (try clear hb)
     (try clear hb2)
     (try clear hk)
     (try clear hi)
     refine hK.out _ _ ⟨(blk_cell BK1314.out 0).trans rfl, (blk_cell BK1314.out 1).trans rfl, (blk_cell BK1314.out 2).trans rfl, (blk_cell BK1314.out 3).trans rfl, (blk_cell BK1314.out 4).trans rfl, (blk_cell BK1314.out 5).trans rfl, (blk_cell BK1314.out 6).trans rfl, (blk_cell BK1314.out 7).trans rfl, ((HB.out.cell (World.block_lt_of_cell? w _ hw1315_0)).trans hw1315_0), ((HB.out.cell (World.block_lt_of_cell? w _ hw1315_1)).trans hw1315_1), ((HB.out.cell (World.block_lt_of_cell? w _ hw1315_2)).trans hw1315_2), ((HB.out.cell (World.block_lt_of_cell? w _ hw1315_3)).trans hw1315_3), ((HB.out.cell (World.block_lt_of_cell? w _ hw1315_4)).trans hw1315_4), ((HB.out.cell (World.block_lt_of_cell? w _ hw1315_5)).trans hw1315_5), ((HB.out.cell (World.block_lt_of_cell? w _ hw1315_6)).trans hw1315_6), ((HB.out.cell (World.block_lt_of_cell? w _ hw1315_7)).trans hw1315_7)⟩ (fun hHeld => ?_)
     clear hK K
     refine norm_ (a' := ?_) ?_ ?_; rotate_left; (show Act.put _ (some 18) _ = _; simp only [Act.put, List.setIfInBounds_toArray, List.set_cons_zero, List.set_cons_succ, i64_w, i32_w]; rfl)
     refine pq_ 6 19 (bL 15 127) HT_.out rfl rfl ?_
     have H := HZ23.out
     clear HZ23
     by_cases c7 : t1316 = true
     ·subst c7
      have H1 : (if ((rd_T61 l0 x6_1).f4) > x5_1 then (laws_newest.l0 k1 l0 ((rd_T61 l0 x6_1).f4) (wrap64 (x6_1 + 1)) a1_0 a1_1 a1_2 a1_3 a1_4 l1_5 a1_6 a1_7) else (laws_newest.l0 k1 l0 x5_1 (wrap64 (x6_1 + 1)) a1_0 a1_1 a1_2 a1_3 a1_4 l1_5 a1_6 a1_7)) = some r := by rw [if_pos rfl] at H; exact H
      clear H
      have H := H1
      clear H1
      have HZ24 := Aside0.mk H
      clear H
      refine pq_ 7 20 (bL 15 255) HT_.out rfl rfl ?_
      refine pq_ 8 21 (bL 15 511) HT_.out rfl rfl ?_
      refine pq_ 9 22 (bL 15 1023) HT_.out rfl rfl ?_
      refine pq_ 10 23 (bL 15 2047) HT_.out rfl rfl ?_
      refine pq_ 12 25 (bL 15 6143) HT_.out rfl rfl ?_
      refine take_ (i := 11) (N := some 24) (v := ?_) (a' := ?_) (bL 15 8191) rfl rfl (take_ofW HT_.out HW_.out (by kernel_rfl)) (fun _ _ _ h => h) (Or.inl ⟨by rfl, ?_⟩) hHeld ?_ ?_; rotate_left; (rintro w' ⟨s0, s1, s2, s3, s4, s5, s6, s7, s8, s9, s10, s11, s12, s13, s14, s15⟩; go_simp; with_reducible rfl); rotate_left; (exact put_q)
      refine pq_ 13 26 (bL 15 16383) HT_.out rfl rfl ?_
      refine pq_ 14 27 (bL 15 32767) HT_.out rfl rfl ?_
      have H := HZ24.out
      clear HZ24
      by_cases c8 : ((rd_T61 l0 x6_1).f4) > x5_1
      ·rw [if_pos c8] at H
       have c8b0 : decide (x5_1 < ((rd_T61 l0 x6_1).f4)) = true := decide_eq_true c8
       (first | rw [c8b0] | (simp only [i64_w, i32_w]; first | rw [c8b0]) | skip)
       clear c8
       have H' := Aside0.mk H
       clear H
       refine done_ (done_of HT_.out (by kernel_rfl)) ?_
       have p1317 : 0 ≤ (x6_1 : Int) := of_decide_eq_true as_q
       have q1317 : x6_1 < (l0.length : Int) := of_decide_eq_true as_q
       obtain ⟨ad1317, A1317_5, c1317_5, e1317, hx1317_0, hx1317_1, hx1317_2, hx1317_3, hx1317_4, hx1317_5, hx1317_6, hx1317_7, hl1317_5, hi1317_5⟩ := at_T61 HR0.out x6_1 p1317 q1317
       obtain rfl : ad1315 = ad1317 := (by injection e1317)
       replace hx1317_0 := (HB.out.cell (World.block_lt_of_cell? w _ hx1317_0)).trans hx1317_0
       replace hx1317_1 := (HB.out.cell (World.block_lt_of_cell? w _ hx1317_1)).trans hx1317_1
       replace hx1317_2 := (HB.out.cell (World.block_lt_of_cell? w _ hx1317_2)).trans hx1317_2
       replace hx1317_3 := (HB.out.cell (World.block_lt_of_cell? w _ hx1317_3)).trans hx1317_3
       replace hx1317_4 := (HB.out.cell (World.block_lt_of_cell? w _ hx1317_4)).trans hx1317_4
       replace hx1317_5 := (HB.out.cell (World.block_lt_of_cell? w _ hx1317_5)).trans hx1317_5
       replace hx1317_6 := (HB.out.cell (World.block_lt_of_cell? w _ hx1317_6)).trans hx1317_6
       replace hx1317_7 := (HB.out.cell (World.block_lt_of_cell? w _ hx1317_7)).trans hx1317_7
       have HR1317_5 := Aside0.mk hi1317_5
       have HC1317_5 := Aside0.mk hl1317_5
       clear hi1317_5 hl1317_5
       replace p1317 := eq_true p1317
       replace q1317 := eq_true q1317
       try go_wp2
       go_roundg k1
       case measure => have := HK1.out; omega
       case rel => exact ⟨((rd_T61 l0 x6_1).f4), (wrap64 (x6_1 + 1)), (by first | rfl | (simp; done) | (simp [*]; done)), (by first | rfl | (simp; done) | (simp [*]; done)), H', ⟨by have := HK1.out; omega⟩, ⟨by refine bz_ ?_; exact BK1314.out⟩, ⟨bw_q HB⟩⟩
      ·rw [if_neg c8] at H
       have c8b0 : decide (x5_1 < ((rd_T61 l0 x6_1).f4)) = false := decide_eq_false c8
       (first | rw [c8b0] | (simp only [i64_w, i32_w]; first | rw [c8b0]) | skip)
       clear c8
       have H' := Aside0.mk H
       clear H
       refine done_ (done_of HT_.out (by kernel_rfl)) ?_
       try go_wp2
       go_roundg k1
       case measure => have := HK1.out; omega
       case rel => exact ⟨(x5_1), (wrap64 (x6_1 + 1)), (by first | rfl | (simp; done) | (simp [*]; done)), (by first | rfl | (simp; done) | (simp [*]; done)), H', ⟨by have := HK1.out; omega⟩, ⟨by refine bz_ ?_; exact BK1314.out⟩, ⟨bw_q HB⟩⟩
     ·replace c7 := Bool.eq_false_iff.mpr c7
      subst c7
      have H1 : (laws_newest.l0 k1 l0 x5_1 (wrap64 (x6_1 + 1)) a1_0 a1_1 a1_2 a1_3 a1_4 l1_5 a1_6 a1_7) = some r := by rw [if_neg (show ¬ (false = true) by decide)] at H; exact H
      clear H
      have H := H1
      clear H1
      have H' := Aside0.mk H
      clear H
      refine pu_ 7 20 (bL 15 255) HT_.out rfl rfl ?_
      refine pu_ 8 21 (bL 15 511) HT_.out rfl rfl ?_
      refine pu_ 9 22 (bL 15 1023) HT_.out rfl rfl ?_
      refine pu_ 10 23 (bL 15 2047) HT_.out rfl rfl ?_
      refine pu_ 11 24 (bL 15 4095) HT_.out rfl rfl ?_
      refine pu_ 12 25 (bL 15 8191) HT_.out rfl rfl ?_
      refine pu_ 13 26 (bL 15 16383) HT_.out rfl rfl ?_
      refine pq_ 14 27 (bL 15 32767) HT_.out rfl rfl ?_
      refine done_ (done_of HT_.out (by kernel_rfl)) ?_
      try go_wp2
      go_roundg k1
      case measure => have := HK1.out; omega
      case rel => exact ⟨(x5_1), (wrap64 (x6_1 + 1)), (by first | rfl | (simp; done) | (simp [*]; done)), (by first | rfl | (simp; done) | (simp [*]; done)), H', ⟨by have := HK1.out; omega⟩, ⟨by refine bz_ ?_; exact BK1314.out⟩, ⟨bw_q HB⟩⟩
    ·rw [if_neg c5] at H
     exact absurd H (by simp)
   ·rw [if_neg c4] at H
    have c4b0 : decide (x6_1 < (l0.length : Int)) = false := decide_eq_false c4
    clear c4
    obtain rfl := Option.some.inj H
    go_wp2
    go_ret
    exact ⟨er_q, bw_q HB⟩

end Go.Proofs.Ythjmdiggglkeaaa.Q

/- A Go function as a Lean function, and its contract: for every input the Go code comes to what the Lean function tells. -/

namespace Go.Proofs.Ythjmdiggglkeaaa.Q
open Go.RowKit Go.Proofs.YthjmdiggglkeaaaW.PrintWords Go.Proofs.YthjmdiggglkeaaaW.PrintLast Go.Proofs.YthjmdiggglkeaaaW.PrintMore
attribute [local go_sem] max2_int min2_int max_two min_two max_three min_three max_four min_four   -- for this text's walks alone
set_option linter.unusedVariables false
set_option linter.unusedSimpArgs false

theorem eqA127 (d : Nat) (w : World) (x0 y0 : Int) (x1 y1 : Int) :
  (Op.equalIn (d + 2) 127 (.agg #[.int .i64 x0, .int .i64 x1]) (.agg #[.int .i64 y0, .int .i64 y1])).run Try.prog w = .ok (x0 == y0 && (x1 == y1)) w := by
 refine eqA_of Try.underlying127 (by kernel_rfl) ?_
 refine eqf_cons (by rfl) (by go_simp; rfl) (by go_simp; rfl) (by go_simp) ?_
 exact eqf_last (by rfl) (by go_simp; rfl) (by go_simp; rfl) (by go_simp)
end Go.Proofs.Ythjmdiggglkeaaa.Q

/- A Go function as a Lean function, and its contract: for every input the Go code comes to what the Lean function tells. -/


namespace Go.Proofs.Ythjmdiggglkeaaa.Q
open Go.RowKit Go.Proofs.YthjmdiggglkeaaaW.PrintWords Go.Proofs.YthjmdiggglkeaaaW.PrintLast Go.Proofs.YthjmdiggglkeaaaW.PrintMore
attribute [local go_sem] max2_int min2_int max_two min_two max_three min_three max_four min_four   -- for this text's walks alone
set_option linter.unusedVariables false
set_option linter.unusedSimpArgs false

attribute [local go_sem high] eqA127
/-! ### laws_same: function 51 -/
mutual
def laws_same.j0 : Nat → Bool → Int → Int → Int → Int → Int → List (S127) → Int → Bool → Int → Int → Int → Int → Int → List (S127) → Int → Bool → Option (Bool)
 | 0, _, _, _, _, _, _, _, _, _, _, _, _, _, _, _, _, _ => none
 | k + 1, x61, x1319000, x1319001, x1319002, x1319003, x1319004, x1319005, x1319006, x1319007, x1320000, x1320001, x1320002, x1320003, x1320004, x1320005, x1320006, x1320007 => if x61 = true then (some false) else (laws_same.l0 k 0 x1319000 x1319001 x1319002 x1319003 x1319004 x1319005 x1319006 x1319007 x1320000 x1320001 x1320002 x1320003 x1320004 x1320005 x1320006 x1320007)
def laws_same.l0 : Nat → Int → Int → Int → Int → Int → Int → List (S127) → Int → Bool → Int → Int → Int → Int → Int → List (S127) → Int → Bool → Option (Bool)
 | 0, _, _, _, _, _, _, _, _, _, _, _, _, _, _, _, _, _ => none
 | k + 1, x5, x1319000, x1319001, x1319002, x1319003, x1319004, x1319005, x1319006, x1319007, x1320000, x1320001, x1320002, x1320003, x1320004, x1320005, x1320006, x1320007 => if x5 < (x1319005.length : Int) then (if 0 ≤ x5 then (if x5 < (x1320005.length : Int) then (if (!(((rd_T127 x1319005 x5).f0) == ((rd_T127 x1320005 x5).f0)) || (!(((rd_T127 x1319005 x5).f1) == ((rd_T127 x1320005 x5).f1)))) = true then (some false) else (laws_same.l0 k (wrap64 (x5 + 1)) x1319000 x1319001 x1319002 x1319003 x1319004 x1319005 x1319006 x1319007 x1320000 x1320001 x1320002 x1320003 x1320004 x1320005 x1320006 x1320007)) else (none)) else (none)) else (some true)
end
def laws_same.f (k : Nat) (a0_0 : Int) (a0_1 : Int) (a0_2 : Int) (a0_3 : Int) (a0_4 : Int) (l0_5 : List (S127)) (a0_6 : Int) (a0_7 : Bool) (a1_0 : Int) (a1_1 : Int) (a1_2 : Int) (a1_3 : Int) (a1_4 : Int) (l1_5 : List (S127)) (a1_6 : Int) (a1_7 : Bool) : Option (Bool) := if a0_0 = a1_0 then (if a0_1 = a1_1 then (if a0_2 = a1_2 then (if a0_3 = a1_3 then (if a0_4 = a1_4 then (if a0_6 = a1_6 then (if (a0_7 != a1_7) = true then (laws_same.j0 k true a0_0 a0_1 a0_2 a0_3 a0_4 l0_5 a0_6 a0_7 a1_0 a1_1 a1_2 a1_3 a1_4 l1_5 a1_6 a1_7) else (laws_same.j0 k ((l0_5.length : Int) != (l1_5.length : Int)) a0_0 a0_1 a0_2 a0_3 a0_4 l0_5 a0_6 a0_7 a1_0 a1_1 a1_2 a1_3 a1_4 l1_5 a1_6 a1_7)) else (laws_same.j0 k true a0_0 a0_1 a0_2 a0_3 a0_4 l0_5 a0_6 a0_7 a1_0 a1_1 a1_2 a1_3 a1_4 l1_5 a1_6 a1_7)) else (laws_same.j0 k true a0_0 a0_1 a0_2 a0_3 a0_4 l0_5 a0_6 a0_7 a1_0 a1_1 a1_2 a1_3 a1_4 l1_5 a1_6 a1_7)) else (laws_same.j0 k true a0_0 a0_1 a0_2 a0_3 a0_4 l0_5 a0_6 a0_7 a1_0 a1_1 a1_2 a1_3 a1_4 l1_5 a1_6 a1_7)) else (laws_same.j0 k true a0_0 a0_1 a0_2 a0_3 a0_4 l0_5 a0_6 a0_7 a1_0 a1_1 a1_2 a1_3 a1_4 l1_5 a1_6 a1_7)) else (laws_same.j0 k true a0_0 a0_1 a0_2 a0_3 a0_4 l0_5 a0_6 a0_7 a1_0 a1_1 a1_2 a1_3 a1_4 l1_5 a1_6 a1_7)) else (laws_same.j0 k true a0_0 a0_1 a0_2 a0_3 a0_4 l0_5 a0_6 a0_7 a1_0 a1_1 a1_2 a1_3 a1_4 l1_5 a1_6 a1_7)
theorem laws_same.mono_l : ∀ k, (∀ y0 y1 y2 y3 y4 y5 y6 y7 y8 y9 y10 y11 y12 y13 y14 y15 y16, LeO (laws_same.j0 k y0 y1 y2 y3 y4 y5 y6 y7 y8 y9 y10 y11 y12 y13 y14 y15 y16) (laws_same.j0 (k + 1) y0 y1 y2 y3 y4 y5 y6 y7 y8 y9 y10 y11 y12 y13 y14 y15 y16)) ∧ (∀ y0 y1 y2 y3 y4 y5 y6 y7 y8 y9 y10 y11 y12 y13 y14 y15 y16, LeO (laws_same.l0 k y0 y1 y2 y3 y4 y5 y6 y7 y8 y9 y10 y11 y12 y13 y14 y15 y16) (laws_same.l0 (k + 1) y0 y1 y2 y3 y4 y5 y6 y7 y8 y9 y10 y11 y12 y13 y14 y15 y16))
 | 0 => ⟨fun _ _ _ _ _ _ _ _ _ _ _ _ _ _ _ _ _ r h => by simp [laws_same.j0] at h, fun _ _ _ _ _ _ _ _ _ _ _ _ _ _ _ _ _ r h => by simp [laws_same.l0] at h⟩
 | k + 1 => by
  obtain ⟨ih0, ih1⟩ := laws_same.mono_l k
  refine ⟨?_, ?_⟩
  ·intro y0 y1 y2 y3 y4 y5 y6 y7 y8 y9 y10 y11 y12 y13 y14 y15 y16
   unfold laws_same.j0
   repeat' first
   | (with_reducible exact ih0 _ _ _ _ _ _ _ _ _ _ _ _ _ _ _ _ _)
   | (with_reducible exact ih1 _ _ _ _ _ _ _ _ _ _ _ _ _ _ _ _ _)
   | (with_reducible exact LeO.refl _)
   | (with_reducible exact LeO.none _)
   | (with_reducible refine LeO.ite ?_ ?_)
   | (with_reducible refine LeO.bind ?_ (fun _ => ?_))
   | exact ih0 _ _ _ _ _ _ _ _ _ _ _ _ _ _ _ _ _
   | exact ih1 _ _ _ _ _ _ _ _ _ _ _ _ _ _ _ _ _
   | exact LeO.none _
   | refine LeO.ite ?_ ?_
   | refine LeO.bind ?_ (fun _ => ?_)
  ·intro y0 y1 y2 y3 y4 y5 y6 y7 y8 y9 y10 y11 y12 y13 y14 y15 y16
   unfold laws_same.l0
   repeat' first
   | (with_reducible exact ih0 _ _ _ _ _ _ _ _ _ _ _ _ _ _ _ _ _)
   | (with_reducible exact ih1 _ _ _ _ _ _ _ _ _ _ _ _ _ _ _ _ _)
   | (with_reducible exact LeO.refl _)
   | (with_reducible exact LeO.none _)
   | (with_reducible refine LeO.ite ?_ ?_)
   | (with_reducible refine LeO.bind ?_ (fun _ => ?_))
   | exact ih0 _ _ _ _ _ _ _ _ _ _ _ _ _ _ _ _ _
   | exact ih1 _ _ _ _ _ _ _ _ _ _ _ _ _ _ _ _ _
   | exact LeO.none _
   | refine LeO.ite ?_ ?_
   | refine LeO.bind ?_ (fun _ => ?_)
theorem laws_same.mono : ∀ a0 a1 a2 a3 a4 a5 a6 a7 a8 a9 a10 a11 a12 a13 a14 a15 k, LeO (laws_same.f k a0 a1 a2 a3 a4 a5 a6 a7 a8 a9 a10 a11 a12 a13 a14 a15) (laws_same.f (k + 1) a0 a1 a2 a3 a4 a5 a6 a7 a8 a9 a10 a11 a12 a13 a14 a15) := by
 intro a0 a1 a2 a3 a4 a5 a6 a7 a8 a9 a10 a11 a12 a13 a14 a15 k
 obtain ⟨ih0, ih1⟩ := laws_same.mono_l k
 unfold laws_same.f
 repeat' first
   | (with_reducible exact ih0 _ _ _ _ _ _ _ _ _ _ _ _ _ _ _ _ _)
   | (with_reducible exact ih1 _ _ _ _ _ _ _ _ _ _ _ _ _ _ _ _ _)
   | (with_reducible exact LeO.refl _)
   | (with_reducible exact LeO.none _)
   | (with_reducible refine LeO.ite ?_ ?_)
   | (with_reducible refine LeO.bind ?_ (fun _ => ?_))
   | exact ih0 _ _ _ _ _ _ _ _ _ _ _ _ _ _ _ _ _
   | exact ih1 _ _ _ _ _ _ _ _ _ _ _ _ _ _ _ _ _
   | exact LeO.none _
   | refine LeO.ite ?_ ?_
   | refine LeO.bind ?_ (fun _ => ?_)
set_option maxHeartbeats 8000000 in
set_option maxRecDepth 100000 in
theorem laws_same.calls (k : Nat) (a0_0 : Int) (a0_1 : Int) (a0_2 : Int) (a0_3 : Int) (a0_4 : Int) (A0_5 : Option Addr) (c0_5 : Nat) (l0_5 : List (S127)) (a0_6 : Int) (a0_7 : Bool) (a1_0 : Int) (a1_1 : Int) (a1_2 : Int) (a1_3 : Int) (a1_4 : Int) (A1_5 : Option Addr) (c1_5 : Nat) (l1_5 : List (S127)) (a1_6 : Int) (a1_7 : Bool) (r : Bool) (w : World) (hr0_5 : Kd.C k127 w A0_5 l0_5.length l0_5) (hc0_5 : l0_5.length ≤ c0_5) (hr1_5 : Kd.C k127 w A1_5 l1_5.length l1_5) (hc1_5 : l1_5.length ≤ c1_5) (h : laws_same.f k a0_0 a0_1 a0_2 a0_3 a0_4 l0_5 a0_6 a0_7 a1_0 a1_1 a1_2 a1_3 a1_4 l1_5 a1_6 a1_7 = some r) :
  Calls Try.prog 51 #[.agg #[.int .i64 a0_0, .int .i64 a0_1, .int .i64 a0_2, .int .i64 a0_3, .int .i64 a0_4, .slice A0_5 l0_5.length c0_5, .int .i64 a0_6, .bool a0_7], .agg #[.int .i64 a1_0, .int .i64 a1_1, .int .i64 a1_2, .int .i64 a1_3, .int .i64 a1_4, .slice A1_5 l1_5.length c1_5, .int .i64 a1_6, .bool a1_7]] w fun e w' => e = .returned (.bool r) ∧ Below w.heap.size w w' := by
 have hu61 := Try.underlying61
 have hu127 := Try.underlying127
 have HR0_5 := Aside0.mk hr0_5
 have HC0_5 := Aside0.mk hc0_5
 clear hr0_5 hc0_5
 have HR1_5 := Aside0.mk hr1_5
 have HC1_5 := Aside0.mk hc1_5
 clear hr1_5 hc1_5
 have HB := Aside0.mk (Below.refl w.heap.size w)
 have H : (if a0_0 = a1_0 then (if a0_1 = a1_1 then (if a0_2 = a1_2 then (if a0_3 = a1_3 then (if a0_4 = a1_4 then (if a0_6 = a1_6 then (if (a0_7 != a1_7) = true then (laws_same.j0 k true a0_0 a0_1 a0_2 a0_3 a0_4 l0_5 a0_6 a0_7 a1_0 a1_1 a1_2 a1_3 a1_4 l1_5 a1_6 a1_7) else (laws_same.j0 k ((l0_5.length : Int) != (l1_5.length : Int)) a0_0 a0_1 a0_2 a0_3 a0_4 l0_5 a0_6 a0_7 a1_0 a1_1 a1_2 a1_3 a1_4 l1_5 a1_6 a1_7)) else (laws_same.j0 k true a0_0 a0_1 a0_2 a0_3 a0_4 l0_5 a0_6 a0_7 a1_0 a1_1 a1_2 a1_3 a1_4 l1_5 a1_6 a1_7)) else (laws_same.j0 k true a0_0 a0_1 a0_2 a0_3 a0_4 l0_5 a0_6 a0_7 a1_0 a1_1 a1_2 a1_3 a1_4 l1_5 a1_6 a1_7)) else (laws_same.j0 k true a0_0 a0_1 a0_2 a0_3 a0_4 l0_5 a0_6 a0_7 a1_0 a1_1 a1_2 a1_3 a1_4 l1_5 a1_6 a1_7)) else (laws_same.j0 k true a0_0 a0_1 a0_2 a0_3 a0_4 l0_5 a0_6 a0_7 a1_0 a1_1 a1_2 a1_3 a1_4 l1_5 a1_6 a1_7)) else (laws_same.j0 k true a0_0 a0_1 a0_2 a0_3 a0_4 l0_5 a0_6 a0_7 a1_0 a1_1 a1_2 a1_3 a1_4 l1_5 a1_6 a1_7)) else (laws_same.j0 k true a0_0 a0_1 a0_2 a0_3 a0_4 l0_5 a0_6 a0_7 a1_0 a1_1 a1_2 a1_3 a1_4 l1_5 a1_6 a1_7)) = some r := h
 clear h
 have HC3 := Aside0.mk H
 clear H
 go_enter Try.func51, Try.ntmps51
 go_upto_region 1 with (first | ((with_reducible refine gate_dst (N := 2) rfl ?_); (try (refine gate_guard (by rfl) ?_; dsimp only)); refine box_q 2 #[.int .i64 a0_0, .int .i64 a0_1, .int .i64 a0_2, .int .i64 a0_3, .int .i64 a0_4, .slice A0_5 l0_5.length c0_5, .int .i64 a0_6, .bool a0_7] 61 ?_; intro gb1318 hg w4 hbox hb; have BK1318 := Aside0.mk (hbox); have GW1318 := Aside0.mk ((by rw [hg]; exact (below_size (bw_q HB)) : w.heap.size ≤ gb1318)); have GE1318 := Aside0.mk ((by rw [hg]; exact (below_size (bw_q HB)) : w.heap.size ≤ gb1318)); replace HB := Aside0.mk (below_step (bw_q HB) hb); clear hb hbox hg) | ((with_reducible refine gate_dst (N := 3) rfl ?_); (try (refine gate_guard (by rfl) ?_; dsimp only)); refine box_q 3 #[.int .i64 a1_0, .int .i64 a1_1, .int .i64 a1_2, .int .i64 a1_3, .int .i64 a1_4, .slice A1_5 l1_5.length c1_5, .int .i64 a1_6, .bool a1_7] 61 ?_; intro gb1319 hg w5 hbox hb; have BK1319 := Aside0.mk (hbox); have GW1319 := Aside0.mk ((by rw [hg]; exact (below_size (bw_q HB)) : w.heap.size ≤ gb1319)); have GE1319 := Aside0.mk ((by rw [hg]; exact (below_size (bw_q HB)) : w.heap.size ≤ gb1319)); replace HB := Aside0.mk (below_step (bw_q HB) hb); have NB1318_1319 := Aside0.mk ((by rw [hg]; exact Nat.ne_of_lt (blk_lt (g := gb1318) (o := .cells #[.int .i64 a0_0, .int .i64 a0_1, .int .i64 a0_2, .int .i64 a0_3, .int .i64 a0_4, .slice A0_5 l0_5.length c0_5, .int .i64 a0_6, .bool a0_7] 61 (0, 0)) (bk_q BK1318)) : gb1318 ≠ gb1319)); have NB1319_1318 := Aside0.mk ((by rw [hg]; exact Nat.ne_of_gt (blk_lt (g := gb1318) (o := .cells #[.int .i64 a0_0, .int .i64 a0_1, .int .i64 a0_2, .int .i64 a0_3, .int .i64 a0_4, .slice A0_5 l0_5.length c0_5, .int .i64 a0_6, .bool a0_7] 61 (0, 0)) (bk_q BK1318)) : gb1319 ≠ gb1318)); replace BK1318 := Aside0.mk (blk_below (g := gb1318) (bk_q BK1318) hb); clear hb hbox hg))
 repeat (go_quiet (first | ((with_reducible refine gate_dst (N := 2) rfl ?_); (try (refine gate_guard (by rfl) ?_; dsimp only)); refine box_q 2 #[.int .i64 a0_0, .int .i64 a0_1, .int .i64 a0_2, .int .i64 a0_3, .int .i64 a0_4, .slice A0_5 l0_5.length c0_5, .int .i64 a0_6, .bool a0_7] 61 ?_; intro gb1318 hg w4 hbox hb; have BK1318 := Aside0.mk (hbox); have GW1318 := Aside0.mk ((by rw [hg]; exact (below_size (bw_q HB)) : w.heap.size ≤ gb1318)); have GE1318 := Aside0.mk ((by rw [hg]; exact (below_size (bw_q HB)) : w.heap.size ≤ gb1318)); replace HB := Aside0.mk (below_step (bw_q HB) hb); clear hb hbox hg) | ((with_reducible refine gate_dst (N := 3) rfl ?_); (try (refine gate_guard (by rfl) ?_; dsimp only)); refine box_q 3 #[.int .i64 a1_0, .int .i64 a1_1, .int .i64 a1_2, .int .i64 a1_3, .int .i64 a1_4, .slice A1_5 l1_5.length c1_5, .int .i64 a1_6, .bool a1_7] 61 ?_; intro gb1319 hg w5 hbox hb; have BK1319 := Aside0.mk (hbox); have GW1319 := Aside0.mk ((by rw [hg]; exact (below_size (bw_q HB)) : w.heap.size ≤ gb1319)); have GE1319 := Aside0.mk ((by rw [hg]; exact (below_size (bw_q HB)) : w.heap.size ≤ gb1319)); replace HB := Aside0.mk (below_step (bw_q HB) hb); have NB1318_1319 := Aside0.mk ((by rw [hg]; exact Nat.ne_of_lt (blk_lt (g := gb1318) (o := .cells #[.int .i64 a0_0, .int .i64 a0_1, .int .i64 a0_2, .int .i64 a0_3, .int .i64 a0_4, .slice A0_5 l0_5.length c0_5, .int .i64 a0_6, .bool a0_7] 61 (0, 0)) (bk_q BK1318)) : gb1318 ≠ gb1319)); have NB1319_1318 := Aside0.mk ((by rw [hg]; exact Nat.ne_of_gt (blk_lt (g := gb1318) (o := .cells #[.int .i64 a0_0, .int .i64 a0_1, .int .i64 a0_2, .int .i64 a0_3, .int .i64 a0_4, .slice A0_5 l0_5.length c0_5, .int .i64 a0_6, .bool a0_7] 61 (0, 0)) (bk_q BK1318)) : gb1319 ≠ gb1318)); replace BK1318 := Aside0.mk (blk_below (g := gb1318) (bk_q BK1318) hb); clear hb hbox hg)); go_upto_region 1 with (first | ((with_reducible refine gate_dst (N := 2) rfl ?_); (try (refine gate_guard (by rfl) ?_; dsimp only)); refine box_q 2 #[.int .i64 a0_0, .int .i64 a0_1, .int .i64 a0_2, .int .i64 a0_3, .int .i64 a0_4, .slice A0_5 l0_5.length c0_5, .int .i64 a0_6, .bool a0_7] 61 ?_; intro gb1318 hg w4 hbox hb; have BK1318 := Aside0.mk (hbox); have GW1318 := Aside0.mk ((by rw [hg]; exact (below_size (bw_q HB)) : w.heap.size ≤ gb1318)); have GE1318 := Aside0.mk ((by rw [hg]; exact (below_size (bw_q HB)) : w.heap.size ≤ gb1318)); replace HB := Aside0.mk (below_step (bw_q HB) hb); clear hb hbox hg) | ((with_reducible refine gate_dst (N := 3) rfl ?_); (try (refine gate_guard (by rfl) ?_; dsimp only)); refine box_q 3 #[.int .i64 a1_0, .int .i64 a1_1, .int .i64 a1_2, .int .i64 a1_3, .int .i64 a1_4, .slice A1_5 l1_5.length c1_5, .int .i64 a1_6, .bool a1_7] 61 ?_; intro gb1319 hg w5 hbox hb; have BK1319 := Aside0.mk (hbox); have GW1319 := Aside0.mk ((by rw [hg]; exact (below_size (bw_q HB)) : w.heap.size ≤ gb1319)); have GE1319 := Aside0.mk ((by rw [hg]; exact (below_size (bw_q HB)) : w.heap.size ≤ gb1319)); replace HB := Aside0.mk (below_step (bw_q HB) hb); have NB1318_1319 := Aside0.mk ((by rw [hg]; exact Nat.ne_of_lt (blk_lt (g := gb1318) (o := .cells #[.int .i64 a0_0, .int .i64 a0_1, .int .i64 a0_2, .int .i64 a0_3, .int .i64 a0_4, .slice A0_5 l0_5.length c0_5, .int .i64 a0_6, .bool a0_7] 61 (0, 0)) (bk_q BK1318)) : gb1318 ≠ gb1319)); have NB1319_1318 := Aside0.mk ((by rw [hg]; exact Nat.ne_of_gt (blk_lt (g := gb1318) (o := .cells #[.int .i64 a0_0, .int .i64 a0_1, .int .i64 a0_2, .int .i64 a0_3, .int .i64 a0_4, .slice A0_5 l0_5.length c0_5, .int .i64 a0_6, .bool a0_7] 61 (0, 0)) (bk_q BK1318)) : gb1319 ≠ gb1318)); replace BK1318 := Aside0.mk (blk_below (g := gb1318) (bk_q BK1318) hb); clear hb hbox hg)))
 (try simp only [Act.put, List.setIfInBounds_toArray, List.set_cons_zero, List.set_cons_succ])
 go_cut [61] (fun v61 wc => ∃ (kq : Nat) (x61_2 : Bool), v61 = .bool x61_2 ∧ Aside0 (laws_same.j0 kq x61_2 a0_0 a0_1 a0_2 a0_3 a0_4 l0_5 a0_6 a0_7 a1_0 a1_1 a1_2 a1_3 a1_4 l1_5 a1_6 a1_7 = some r) ∧ Aside0 (kq ≤ k) ∧ Aside0 (wc.heap[gb1318]? = some (.cells #[.int .i64 a0_0, .int .i64 a0_1, .int .i64 a0_2, .int .i64 a0_3, .int .i64 a0_4, (.slice A0_5 l0_5.length c0_5), .int .i64 a0_6, .bool a0_7] 61 (0, 0))) ∧ Aside0 (wc.heap[gb1319]? = some (.cells #[.int .i64 a1_0, .int .i64 a1_1, .int .i64 a1_2, .int .i64 a1_3, .int .i64 a1_4, (.slice A1_5 l1_5.length c1_5), .int .i64 a1_6, .bool a1_7] 61 (0, 0))) ∧ Aside0 (Below w.heap.size w wc))
 case first =>
  have H := HC3.out
  clear HC3
  by_cases c6 : a0_0 = a1_0
  ·rw [if_pos c6] at H
   have c6b0 : (a0_0 == a1_0) = true := beq_iff_eq.mpr c6
   have c6b1 : (a0_0 != a1_0) = false := bne_eq_false_iff_eq.mpr c6
   clear c6
   (first | rw [c6b0] | rw [c6b1] | (simp only [i64_w, i32_w]; first | rw [c6b0] | rw [c6b1]) | skip)
   by_cases c7 : a0_1 = a1_1
   ·rw [if_pos c7] at H
    have c7b0 : (a0_1 == a1_1) = true := beq_iff_eq.mpr c7
    have c7b1 : (a0_1 != a1_1) = false := bne_eq_false_iff_eq.mpr c7
    clear c7
    by_cases c8 : a0_2 = a1_2
    ·rw [if_pos c8] at H
     have c8b0 : (a0_2 == a1_2) = true := beq_iff_eq.mpr c8
     have c8b1 : (a0_2 != a1_2) = false := bne_eq_false_iff_eq.mpr c8
     clear c8
     by_cases c9 : a0_3 = a1_3
     ·rw [if_pos c9] at H
      have c9b0 : (a0_3 == a1_3) = true := beq_iff_eq.mpr c9
      have c9b1 : (a0_3 != a1_3) = false := bne_eq_false_iff_eq.mpr c9
      clear c9
      by_cases c10 : a0_4 = a1_4
      ·rw [if_pos c10] at H
       have c10b0 : (a0_4 == a1_4) = true := beq_iff_eq.mpr c10
       have c10b1 : (a0_4 != a1_4) = false := bne_eq_false_iff_eq.mpr c10
       clear c10
       by_cases c11 : a0_6 = a1_6
       ·rw [if_pos c11] at H
        have c11b0 : (a0_6 == a1_6) = true := beq_iff_eq.mpr c11
        have c11b1 : (a0_6 != a1_6) = false := bne_eq_false_iff_eq.mpr c11
        clear c11
        by_cases c12 : (a0_7 != a1_7) = true
        ·rw [if_pos c12] at H
         have c12b0 : (a0_7 != a1_7) = true := c12
         (try (have c12b1 : decide (a0_7 = a1_7) = false := by simpa using c12))
         (try (have c12b2 : (a0_7 == a1_7) = false := by simpa using c12))
         (try (have c12b3 : ¬ (a0_7 = a1_7) := by simpa using c12))
         clear c12
         have H' := Aside0.mk H
         clear H
         have hnb13 := NB1318_1319.out
         have hnc13 := NB1319_1318.out
         obtain ⟨hcz14_0, hcz14_1, hcz14_2, hcz14_3, hcz14_4, hcz14_5, hcz14_6, hcz14_7⟩ := cz8_ BK1318
         obtain ⟨hfz14_0, hfz14_1, hfz14_2, hfz14_3, hfz14_4, hfz14_5, hfz14_6, hfz14_7⟩ := fz8_ BK1318
         obtain ⟨hcz15_0, hcz15_1, hcz15_2, hcz15_3, hcz15_4, hcz15_5, hcz15_6, hcz15_7⟩ := cz8_ BK1319
         obtain ⟨hfz15_0, hfz15_1, hfz15_2, hfz15_3, hfz15_4, hfz15_5, hfz15_6, hfz15_7⟩ := fz8_ BK1319
         go_wp2
         repeat (go_quiet (fail); try go_wp2)
         go_meet
         case rel => exact ⟨_, (true), (by first | rfl | (simp; done) | (simp [*]; done)), H', ⟨by first | omega | exact Nat.le_refl _⟩, ⟨by refine bz_ ?_; exact BK1318.out⟩, ⟨by refine bz_ ?_; exact BK1319.out⟩, ⟨bw_q HB⟩⟩
        ·rw [if_neg c12] at H
         have c12b0 : (a0_7 != a1_7) = false := by simpa using c12
         (try (have c12b1 : decide (a0_7 = a1_7) = true := by simpa using c12))
         (try (have c12b2 : (a0_7 == a1_7) = true := by simpa using c12))
         clear c12
         have H' := Aside0.mk H
         clear H
         have hnb16 := NB1318_1319.out
         have hnc16 := NB1319_1318.out
         obtain ⟨hcz17_0, hcz17_1, hcz17_2, hcz17_3, hcz17_4, hcz17_5, hcz17_6, hcz17_7⟩ := cz8_ BK1318
         obtain ⟨hfz17_0, hfz17_1, hfz17_2, hfz17_3, hfz17_4, hfz17_5, hfz17_6, hfz17_7⟩ := fz8_ BK1318
         obtain ⟨hcz18_0, hcz18_1, hcz18_2, hcz18_3, hcz18_4, hcz18_5, hcz18_6, hcz18_7⟩ := cz8_ BK1319
         obtain ⟨hfz18_0, hfz18_1, hfz18_2, hfz18_3, hfz18_4, hfz18_5, hfz18_6, hfz18_7⟩ := fz8_ BK1319
         go_wp2
         repeat (go_quiet (fail); try go_wp2)
         go_meet
         case rel => exact ⟨_, (((l0_5.length : Int) != (l1_5.length : Int))), (by first | rfl | (simp; done) | (simp [*]; done)), H', ⟨by first | omega | exact Nat.le_refl _⟩, ⟨by refine bz_ ?_; exact BK1318.out⟩, ⟨by refine bz_ ?_; exact BK1319.out⟩, ⟨bw_q HB⟩⟩
       ·rw [if_neg c11] at H
        have c11b0 : (a0_6 == a1_6) = false := beq_eq_false_iff_ne.mpr c11
        have c11b1 : (a0_6 != a1_6) = true := bne_iff_ne.mpr c11
        have H' := Aside0.mk H
        clear H
        have hnb19 := NB1318_1319.out
        have hnc19 := NB1319_1318.out
        obtain ⟨hcz20_0, hcz20_1, hcz20_2, hcz20_3, hcz20_4, hcz20_5, hcz20_6, hcz20_7⟩ := cz8_ BK1318
        obtain ⟨hfz20_0, hfz20_1, hfz20_2, hfz20_3, hfz20_4, hfz20_5, hfz20_6, hfz20_7⟩ := fz8_ BK1318
        obtain ⟨hcz21_0, hcz21_1, hcz21_2, hcz21_3, hcz21_4, hcz21_5, hcz21_6, hcz21_7⟩ := cz8_ BK1319
        obtain ⟨hfz21_0, hfz21_1, hfz21_2, hfz21_3, hfz21_4, hfz21_5, hfz21_6, hfz21_7⟩ := fz8_ BK1319
        go_wp2
        repeat (go_quiet (fail); try go_wp2)
        go_meet
        case rel => exact ⟨_, (true), (by first | rfl | (simp; done) | (simp [*]; done)), H', ⟨by first | omega | exact Nat.le_refl _⟩, ⟨by refine bz_ ?_; exact BK1318.out⟩, ⟨by refine bz_ ?_; exact BK1319.out⟩, ⟨bw_q HB⟩⟩
      ·rw [if_neg c10] at H
       have c10b0 : (a0_4 == a1_4) = false := beq_eq_false_iff_ne.mpr c10
       have c10b1 : (a0_4 != a1_4) = true := bne_iff_ne.mpr c10
       have H' := Aside0.mk H
       clear H
       have hnb22 := NB1318_1319.out
       have hnc22 := NB1319_1318.out
       obtain ⟨hcz23_0, hcz23_1, hcz23_2, hcz23_3, hcz23_4, hcz23_5, hcz23_6, hcz23_7⟩ := cz8_ BK1318
       obtain ⟨hfz23_0, hfz23_1, hfz23_2, hfz23_3, hfz23_4, hfz23_5, hfz23_6, hfz23_7⟩ := fz8_ BK1318
       obtain ⟨hcz24_0, hcz24_1, hcz24_2, hcz24_3, hcz24_4, hcz24_5, hcz24_6, hcz24_7⟩ := cz8_ BK1319
       obtain ⟨hfz24_0, hfz24_1, hfz24_2, hfz24_3, hfz24_4, hfz24_5, hfz24_6, hfz24_7⟩ := fz8_ BK1319
       go_wp2
       repeat (go_quiet (fail); try go_wp2)
       go_meet
       case rel => exact ⟨_, (true), (by first | rfl | (simp; done) | (simp [*]; done)), H', ⟨by first | omega | exact Nat.le_refl _⟩, ⟨by refine bz_ ?_; exact BK1318.out⟩, ⟨by refine bz_ ?_; exact BK1319.out⟩, ⟨bw_q HB⟩⟩
     ·rw [if_neg c9] at H
      have c9b0 : (a0_3 == a1_3) = false := beq_eq_false_iff_ne.mpr c9
      have c9b1 : (a0_3 != a1_3) = true := bne_iff_ne.mpr c9
      have H' := Aside0.mk H
      clear H
      have hnb25 := NB1318_1319.out
      have hnc25 := NB1319_1318.out
      obtain ⟨hcz26_0, hcz26_1, hcz26_2, hcz26_3, hcz26_4, hcz26_5, hcz26_6, hcz26_7⟩ := cz8_ BK1318
      obtain ⟨hfz26_0, hfz26_1, hfz26_2, hfz26_3, hfz26_4, hfz26_5, hfz26_6, hfz26_7⟩ := fz8_ BK1318
      obtain ⟨hcz27_0, hcz27_1, hcz27_2, hcz27_3, hcz27_4, hcz27_5, hcz27_6, hcz27_7⟩ := cz8_ BK1319
      obtain ⟨hfz27_0, hfz27_1, hfz27_2, hfz27_3, hfz27_4, hfz27_5, hfz27_6, hfz27_7⟩ := fz8_ BK1319
      go_wp2
      repeat (go_quiet (fail); try go_wp2)
      go_meet
      case rel => exact ⟨_, (true), (by first | rfl | (simp; done) | (simp [*]; done)), H', ⟨by first | omega | exact Nat.le_refl _⟩, ⟨by refine bz_ ?_; exact BK1318.out⟩, ⟨by refine bz_ ?_; exact BK1319.out⟩, ⟨bw_q HB⟩⟩
    ·rw [if_neg c8] at H
     have c8b0 : (a0_2 == a1_2) = false := beq_eq_false_iff_ne.mpr c8
     have c8b1 : (a0_2 != a1_2) = true := bne_iff_ne.mpr c8
     have H' := Aside0.mk H
     clear H
     have hnb28 := NB1318_1319.out
     have hnc28 := NB1319_1318.out
     obtain ⟨hcz29_0, hcz29_1, hcz29_2, hcz29_3, hcz29_4, hcz29_5, hcz29_6, hcz29_7⟩ := cz8_ BK1318
     obtain ⟨hfz29_0, hfz29_1, hfz29_2, hfz29_3, hfz29_4, hfz29_5, hfz29_6, hfz29_7⟩ := fz8_ BK1318
     obtain ⟨hcz30_0, hcz30_1, hcz30_2, hcz30_3, hcz30_4, hcz30_5, hcz30_6, hcz30_7⟩ := cz8_ BK1319
     obtain ⟨hfz30_0, hfz30_1, hfz30_2, hfz30_3, hfz30_4, hfz30_5, hfz30_6, hfz30_7⟩ := fz8_ BK1319
     go_wp2
     repeat (go_quiet (fail); try go_wp2)
     go_meet
     case rel => exact ⟨_, (true), (by first | rfl | (simp; done) | (simp [*]; done)), H', ⟨by first | omega | exact Nat.le_refl _⟩, ⟨by refine bz_ ?_; exact BK1318.out⟩, ⟨by refine bz_ ?_; exact BK1319.out⟩, ⟨bw_q HB⟩⟩
   ·rw [if_neg c7] at H
    have c7b0 : (a0_1 == a1_1) = false := beq_eq_false_iff_ne.mpr c7
    have c7b1 : (a0_1 != a1_1) = true := bne_iff_ne.mpr c7
    have H' := Aside0.mk H
    clear H
    have hnb31 := NB1318_1319.out
    have hnc31 := NB1319_1318.out
    obtain ⟨hcz32_0, hcz32_1, hcz32_2, hcz32_3, hcz32_4, hcz32_5, hcz32_6, hcz32_7⟩ := cz8_ BK1318
    obtain ⟨hfz32_0, hfz32_1, hfz32_2, hfz32_3, hfz32_4, hfz32_5, hfz32_6, hfz32_7⟩ := fz8_ BK1318
    obtain ⟨hcz33_0, hcz33_1, hcz33_2, hcz33_3, hcz33_4, hcz33_5, hcz33_6, hcz33_7⟩ := cz8_ BK1319
    obtain ⟨hfz33_0, hfz33_1, hfz33_2, hfz33_3, hfz33_4, hfz33_5, hfz33_6, hfz33_7⟩ := fz8_ BK1319
    go_wp2
    repeat (go_quiet (fail); try go_wp2)
    go_meet
    case rel => exact ⟨_, (true), (by first | rfl | (simp; done) | (simp [*]; done)), H', ⟨by first | omega | exact Nat.le_refl _⟩, ⟨by refine bz_ ?_; exact BK1318.out⟩, ⟨by refine bz_ ?_; exact BK1319.out⟩, ⟨bw_q HB⟩⟩
  ·rw [if_neg c6] at H
   have c6b0 : (a0_0 == a1_0) = false := beq_eq_false_iff_ne.mpr c6
   have c6b1 : (a0_0 != a1_0) = true := bne_iff_ne.mpr c6
   (first | rw [c6b0] | rw [c6b1] | (simp only [i64_w, i32_w]; first | rw [c6b0] | rw [c6b1]) | skip)
   have H' := Aside0.mk H
   clear H
   have hnb34 := NB1318_1319.out
   have hnc34 := NB1319_1318.out
   obtain ⟨hcz35_0, hcz35_1, hcz35_2, hcz35_3, hcz35_4, hcz35_5, hcz35_6, hcz35_7⟩ := cz8_ BK1318
   obtain ⟨hfz35_0, hfz35_1, hfz35_2, hfz35_3, hfz35_4, hfz35_5, hfz35_6, hfz35_7⟩ := fz8_ BK1318
   obtain ⟨hcz36_0, hcz36_1, hcz36_2, hcz36_3, hcz36_4, hcz36_5, hcz36_6, hcz36_7⟩ := cz8_ BK1319
   obtain ⟨hfz36_0, hfz36_1, hfz36_2, hfz36_3, hfz36_4, hfz36_5, hfz36_6, hfz36_7⟩ := fz8_ BK1319
   go_wp2
   repeat (go_quiet (fail); try go_wp2)
   go_meet
   case rel => exact ⟨_, (true), (by first | rfl | (simp; done) | (simp [*]; done)), H', ⟨by first | omega | exact Nat.le_refl _⟩, ⟨by refine bz_ ?_; exact BK1318.out⟩, ⟨by refine bz_ ?_; exact BK1319.out⟩, ⟨bw_q HB⟩⟩
 case rest =>
  clear HC3
  try clear c1
  try clear c2
  try clear p2
  try clear c3
  try clear c5
  try clear c6
  try clear c6b0
  try clear c6b1
  try clear c7
  try clear c7b0
  try clear c7b1
  try clear c8
  try clear c8b0
  try clear c8b1
  try clear c9
  try clear c9b0
  try clear c9b1
  try clear c10
  try clear c10b0
  try clear c10b1
  try clear c11
  try clear c11b0
  try clear c11b1
  try clear c12
  try clear c12b0
  try clear c12b1
  try clear c12b2
  try clear c13
  try clear c16
  try clear c19
  try clear c22
  try clear c25
  try clear c28
  try clear c31
  try clear c34
  try clear hcz14_0
  try clear hcz14_1
  try clear hcz14_2
  try clear hcz14_3
  try clear hcz14_4
  try clear hcz14_5
  try clear hcz14_6
  try clear hcz14_7
  try clear hcz15_0
  try clear hcz15_1
  try clear hcz15_2
  try clear hcz15_3
  try clear hcz15_4
  try clear hcz15_5
  try clear hcz15_6
  try clear hcz15_7
  try clear hcz17_0
  try clear hcz17_1
  try clear hcz17_2
  try clear hcz17_3
  try clear hcz17_4
  try clear hcz17_5
  try clear hcz17_6
  try clear hcz17_7
  try clear hcz18_0
  try clear hcz18_1
  try clear hcz18_2
  try clear hcz18_3
  try clear hcz18_4
  try clear hcz18_5
  try clear hcz18_6
  try clear hcz18_7
  try clear hcz20_0
  try clear hcz20_1
  try clear hcz20_2
  try clear hcz20_3
  try clear hcz20_4
  try clear hcz20_5
  try clear hcz20_6
  try clear hcz20_7
  try clear hcz21_0
  try clear hcz21_1
  try clear hcz21_2
  try clear hcz21_3
  try clear hcz21_4
  try clear hcz21_5
  try clear hcz21_6
  try clear hcz21_7
  try clear hcz23_0
  try clear hcz23_1
  try clear hcz23_2
  try clear hcz23_3
  try clear hcz23_4
  try clear hcz23_5
  try clear hcz23_6
  try clear hcz23_7
  try clear hcz24_0
  try clear hcz24_1
  try clear hcz24_2
  try clear hcz24_3
  try clear hcz24_4
  try clear hcz24_5
  try clear hcz24_6
  try clear hcz24_7
  try clear hcz26_0
  try clear hcz26_1
  try clear hcz26_2
  try clear hcz26_3
  try clear hcz26_4
  try clear hcz26_5
  try clear hcz26_6
  try clear hcz26_7
  try clear hcz27_0
  try clear hcz27_1
  try clear hcz27_2
  try clear hcz27_3
  try clear hcz27_4
  try clear hcz27_5
  try clear hcz27_6
  try clear hcz27_7
  try clear hcz29_0
  try clear hcz29_1
  try clear hcz29_2
  try clear hcz29_3
  try clear hcz29_4
  try clear hcz29_5
  try clear hcz29_6
  try clear hcz29_7
  try clear hcz30_0
  try clear hcz30_1
  try clear hcz30_2
  try clear hcz30_3
  try clear hcz30_4
  try clear hcz30_5
  try clear hcz30_6
  try clear hcz30_7
  try clear hcz32_0
  try clear hcz32_1
  try clear hcz32_2
  try clear hcz32_3
  try clear hcz32_4
  try clear hcz32_5
  try clear hcz32_6
  try clear hcz32_7
  try clear hcz33_0
  try clear hcz33_1
  try clear hcz33_2
  try clear hcz33_3
  try clear hcz33_4
  try clear hcz33_5
  try clear hcz33_6
  try clear hcz33_7
  try clear hcz35_0
  try clear hcz35_1
  try clear hcz35_2
  try clear hcz35_3
  try clear hcz35_4
  try clear hcz35_5
  try clear hcz35_6
  try clear hcz35_7
  try clear hcz36_0
  try clear hcz36_1
  try clear hcz36_2
  try clear hcz36_3
  try clear hcz36_4
  try clear hcz36_5
  try clear hcz36_6
  try clear hcz36_7
  try clear hfz14_0
  try clear hfz14_1
  try clear hfz14_2
  try clear hfz14_3
  try clear hfz14_4
  try clear hfz14_5
  try clear hfz14_6
  try clear hfz14_7
  try clear hfz15_0
  try clear hfz15_1
  try clear hfz15_2
  try clear hfz15_3
  try clear hfz15_4
  try clear hfz15_5
  try clear hfz15_6
  try clear hfz15_7
  try clear hfz17_0
  try clear hfz17_1
  try clear hfz17_2
  try clear hfz17_3
  try clear hfz17_4
  try clear hfz17_5
  try clear hfz17_6
  try clear hfz17_7
  try clear hfz18_0
  try clear hfz18_1
  try clear hfz18_2
  try clear hfz18_3
  try clear hfz18_4
  try clear hfz18_5
  try clear hfz18_6
  try clear hfz18_7
  try clear hfz20_0
  try clear hfz20_1
  try clear hfz20_2
  try clear hfz20_3
  try clear hfz20_4
  try clear hfz20_5
  try clear hfz20_6
  try clear hfz20_7
  try clear hfz21_0
  try clear hfz21_1
  try clear hfz21_2
  try clear hfz21_3
  try clear hfz21_4
  try clear hfz21_5
  try clear hfz21_6
  try clear hfz21_7
  try clear hfz23_0
  try clear hfz23_1
  try clear hfz23_2
  try clear hfz23_3
  try clear hfz23_4
  try clear hfz23_5
  try clear hfz23_6
  try clear hfz23_7
  try clear hfz24_0
  try clear hfz24_1
  try clear hfz24_2
  try clear hfz24_3
  try clear hfz24_4
  try clear hfz24_5
  try clear hfz24_6
  try clear hfz24_7
  try clear hfz26_0
  try clear hfz26_1
  try clear hfz26_2
  try clear hfz26_3
  try clear hfz26_4
  try clear hfz26_5
  try clear hfz26_6
  try clear hfz26_7
  try clear hfz27_0
  try clear hfz27_1
  try clear hfz27_2
  try clear hfz27_3
  try clear hfz27_4
  try clear hfz27_5
  try clear hfz27_6
  try clear hfz27_7
  try clear hfz29_0
  try clear hfz29_1
  try clear hfz29_2
  try clear hfz29_3
  try clear hfz29_4
  try clear hfz29_5
  try clear hfz29_6
  try clear hfz29_7
  try clear hfz30_0
  try clear hfz30_1
  try clear hfz30_2
  try clear hfz30_3
  try clear hfz30_4
  try clear hfz30_5
  try clear hfz30_6
  try clear hfz30_7
  try clear hfz32_0
  try clear hfz32_1
  try clear hfz32_2
  try clear hfz32_3
  try clear hfz32_4
  try clear hfz32_5
  try clear hfz32_6
  try clear hfz32_7
  try clear hfz33_0
  try clear hfz33_1
  try clear hfz33_2
  try clear hfz33_3
  try clear hfz33_4
  try clear hfz33_5
  try clear hfz33_6
  try clear hfz33_7
  try clear hfz35_0
  try clear hfz35_1
  try clear hfz35_2
  try clear hfz35_3
  try clear hfz35_4
  try clear hfz35_5
  try clear hfz35_6
  try clear hfz35_7
  try clear hfz36_0
  try clear hfz36_1
  try clear hfz36_2
  try clear hfz36_3
  try clear hfz36_4
  try clear hfz36_5
  try clear hfz36_6
  try clear hfz36_7
  obtain ⟨kq, x61_2, rfl, HA, HJ2, BK1318, BK1319, HB⟩ := hcut
  cases kq with
  | zero => exact absurd HA.out (by simp [laws_same.j0])
  | succ kj2 =>
   have H := HA.out
   clear HA
   simp only [laws_same.j0] at H
   by_cases c37 : x61_2 = true
   ·subst c37
    have H1 : (some false) = some r := by rw [if_pos rfl] at H; exact H
    clear H
    have H := H1
    clear H1
    obtain rfl := Option.some.inj H
    go_wp2
    repeat (go_quiet (fail); try go_wp2)
    go_ret
    exact ⟨er_q, bw_q HB⟩
   ·replace c37 := Bool.eq_false_iff.mpr c37
    subst c37
    have H1 : (laws_same.l0 kj2 0 a0_0 a0_1 a0_2 a0_3 a0_4 l0_5 a0_6 a0_7 a1_0 a1_1 a1_2 a1_3 a1_4 l1_5 a1_6 a1_7) = some r := by rw [if_neg (show ¬ (false = true) by decide)] at H; exact H
    clear H
    have H := H1
    clear H1
    have H' := Aside0.mk H
    clear H
    go_wp2
    repeat (go_quiet (fail); try go_wp2)
    go_loopg [5] kj2 (fun kq v5 w' => ∃ (x5_2 : Int), v5 = .int .i64 x5_2 ∧ Aside0 (laws_same.l0 kq x5_2 a0_0 a0_1 a0_2 a0_3 a0_4 l0_5 a0_6 a0_7 a1_0 a1_1 a1_2 a1_3 a1_4 l1_5 a1_6 a1_7 = some r) ∧ Aside0 (kq ≤ kj2) ∧ Aside0 (w'.heap[gb1318]? = some (.cells #[.int .i64 a0_0, .int .i64 a0_1, .int .i64 a0_2, .int .i64 a0_3, .int .i64 a0_4, (.slice A0_5 l0_5.length c0_5), .int .i64 a0_6, .bool a0_7] 61 (0, 0))) ∧ Aside0 (w'.heap[gb1319]? = some (.cells #[.int .i64 a1_0, .int .i64 a1_1, .int .i64 a1_2, .int .i64 a1_3, .int .i64 a1_4, (.slice A1_5 l1_5.length c1_5), .int .i64 a1_6, .bool a1_7] 61 (0, 0))) ∧ Aside0 (Below w.heap.size w w'))
    case atStart => exact ⟨(0), (by first | rfl | (simp; done) | (simp [*]; done)), H', ⟨Nat.le_refl _⟩, ⟨by refine bz_ ?_; exact BK1318.out⟩, ⟨by refine bz_ ?_; exact BK1319.out⟩, ⟨bw_q HB⟩⟩
    case round =>
     clear H'
     try clear c1
     try clear c2
     try clear p2
     try clear c3
     try clear c5
     try clear c6
     try clear c6b0
     try clear c6b1
     try clear c7
     try clear c7b0
     try clear c7b1
     try clear c8
     try clear c8b0
     try clear c8b1
     try clear c9
     try clear c9b0
     try clear c9b1
     try clear c10
     try clear c10b0
     try clear c10b1
     try clear c11
     try clear c11b0
     try clear c11b1
     try clear c12
     try clear c12b0
     try clear c12b1
     try clear c12b2
     try clear c13
     try clear c16
     try clear c19
     try clear c22
     try clear c25
     try clear c28
     try clear c31
     try clear c34
     try clear c37
     try clear hcz14_0
     try clear hcz14_1
     try clear hcz14_2
     try clear hcz14_3
     try clear hcz14_4
     try clear hcz14_5
     try clear hcz14_6
     try clear hcz14_7
     try clear hcz15_0
     try clear hcz15_1
     try clear hcz15_2
     try clear hcz15_3
     try clear hcz15_4
     try clear hcz15_5
     try clear hcz15_6
     try clear hcz15_7
     try clear hcz17_0
     try clear hcz17_1
     try clear hcz17_2
     try clear hcz17_3
     try clear hcz17_4
     try clear hcz17_5
     try clear hcz17_6
     try clear hcz17_7
     try clear hcz18_0
     try clear hcz18_1
     try clear hcz18_2
     try clear hcz18_3
     try clear hcz18_4
     try clear hcz18_5
     try clear hcz18_6
     try clear hcz18_7
     try clear hcz20_0
     try clear hcz20_1
     try clear hcz20_2
     try clear hcz20_3
     try clear hcz20_4
     try clear hcz20_5
     try clear hcz20_6
     try clear hcz20_7
     try clear hcz21_0
     try clear hcz21_1
     try clear hcz21_2
     try clear hcz21_3
     try clear hcz21_4
     try clear hcz21_5
     try clear hcz21_6
     try clear hcz21_7
     try clear hcz23_0
     try clear hcz23_1
     try clear hcz23_2
     try clear hcz23_3
     try clear hcz23_4
     try clear hcz23_5
     try clear hcz23_6
     try clear hcz23_7
     try clear hcz24_0
     try clear hcz24_1
     try clear hcz24_2
     try clear hcz24_3
     try clear hcz24_4
     try clear hcz24_5
     try clear hcz24_6
     try clear hcz24_7
     try clear hcz26_0
     try clear hcz26_1
     try clear hcz26_2
     try clear hcz26_3
     try clear hcz26_4
     try clear hcz26_5
     try clear hcz26_6
     try clear hcz26_7
     try clear hcz27_0
     try clear hcz27_1
     try clear hcz27_2
     try clear hcz27_3
     try clear hcz27_4
     try clear hcz27_5
     try clear hcz27_6
     try clear hcz27_7
     try clear hcz29_0
     try clear hcz29_1
     try clear hcz29_2
     try clear hcz29_3
     try clear hcz29_4
     try clear hcz29_5
     try clear hcz29_6
     try clear hcz29_7
     try clear hcz30_0
     try clear hcz30_1
     try clear hcz30_2
     try clear hcz30_3
     try clear hcz30_4
     try clear hcz30_5
     try clear hcz30_6
     try clear hcz30_7
     try clear hcz32_0
     try clear hcz32_1
     try clear hcz32_2
     try clear hcz32_3
     try clear hcz32_4
     try clear hcz32_5
     try clear hcz32_6
     try clear hcz32_7
     try clear hcz33_0
     try clear hcz33_1
     try clear hcz33_2
     try clear hcz33_3
     try clear hcz33_4
     try clear hcz33_5
     try clear hcz33_6
     try clear hcz33_7
     try clear hcz35_0
     try clear hcz35_1
     try clear hcz35_2
     try clear hcz35_3
     try clear hcz35_4
     try clear hcz35_5
     try clear hcz35_6
     try clear hcz35_7
     try clear hcz36_0
     try clear hcz36_1
     try clear hcz36_2
     try clear hcz36_3
     try clear hcz36_4
     try clear hcz36_5
     try clear hcz36_6
     try clear hcz36_7
     try clear hfz14_0
     try clear hfz14_1
     try clear hfz14_2
     try clear hfz14_3
     try clear hfz14_4
     try clear hfz14_5
     try clear hfz14_6
     try clear hfz14_7
     try clear hfz15_0
     try clear hfz15_1
     try clear hfz15_2
     try clear hfz15_3
     try clear hfz15_4
     try clear hfz15_5
     try clear hfz15_6
     try clear hfz15_7
     try clear hfz17_0
     try clear hfz17_1
     try clear hfz17_2
     try clear hfz17_3
     try clear hfz17_4
     try clear hfz17_5
     try clear hfz17_6
     try clear hfz17_7
     try clear hfz18_0
     try clear hfz18_1
     try clear hfz18_2
     try clear hfz18_3
     try clear hfz18_4
     try clear hfz18_5
     try clear hfz18_6
     try clear hfz18_7
     try clear hfz20_0
     try clear hfz20_1
     try clear hfz20_2
     try clear hfz20_3
     try clear hfz20_4
     try clear hfz20_5
     try clear hfz20_6
     try clear hfz20_7
     try clear hfz21_0
     try clear hfz21_1
     try clear hfz21_2
     try clear hfz21_3
     try clear hfz21_4
     try clear hfz21_5
     try clear hfz21_6
     try clear hfz21_7
     try clear hfz23_0
     try clear hfz23_1
     try clear hfz23_2
     try clear hfz23_3
     try clear hfz23_4
     try clear hfz23_5
     try clear hfz23_6
     try clear hfz23_7
     try clear hfz24_0
     try clear hfz24_1
     try clear hfz24_2
     try clear hfz24_3
     try clear hfz24_4
     try clear hfz24_5
     try clear hfz24_6
     try clear hfz24_7
     try clear hfz26_0
     try clear hfz26_1
     try clear hfz26_2
     try clear hfz26_3
     try clear hfz26_4
     try clear hfz26_5
     try clear hfz26_6
     try clear hfz26_7
     try clear hfz27_0
     try clear hfz27_1
     try clear hfz27_2
     try clear hfz27_3
     try clear hfz27_4
     try clear hfz27_5
     try clear hfz27_6
     try clear hfz27_7
     try clear hfz29_0
     try clear hfz29_1
     try clear hfz29_2
     try clear hfz29_3
     try clear hfz29_4
     try clear hfz29_5
     try clear hfz29_6
     try clear hfz29_7
     try clear hfz30_0
     try clear hfz30_1
     try clear hfz30_2
     try clear hfz30_3
     try clear hfz30_4
     try clear hfz30_5
     try clear hfz30_6
     try clear hfz30_7
     try clear hfz32_0
     try clear hfz32_1
     try clear hfz32_2
     try clear hfz32_3
     try clear hfz32_4
     try clear hfz32_5
     try clear hfz32_6
     try clear hfz32_7
     try clear hfz33_0
     try clear hfz33_1
     try clear hfz33_2
     try clear hfz33_3
     try clear hfz33_4
     try clear hfz33_5
     try clear hfz33_6
     try clear hfz33_7
     try clear hfz35_0
     try clear hfz35_1
     try clear hfz35_2
     try clear hfz35_3
     try clear hfz35_4
     try clear hfz35_5
     try clear hfz35_6
     try clear hfz35_7
     try clear hfz36_0
     try clear hfz36_1
     try clear hfz36_2
     try clear hfz36_3
     try clear hfz36_4
     try clear hfz36_5
     try clear hfz36_6
     try clear hfz36_7
     try clear p2
     obtain ⟨x5_2, rfl, HA, HK2, BK1318, BK1319, HB⟩ := hrel
     cases gk with
     | zero => exact absurd HA.out (by simp [laws_same.l0])
     | succ k2 =>
      have H := HA.out
      clear HA
      simp only [laws_same.l0] at H
      by_cases c38 : x5_2 < (l0_5.length : Int)
      ·rw [if_pos c38] at H
       have c38b0 : decide (x5_2 < (l0_5.length : Int)) = true := decide_eq_true c38
       clear c38
       by_cases c39 : 0 ≤ x5_2
       ·rw [if_pos c39] at H
        have c39b0 : decide (0 ≤ x5_2) = true := decide_eq_true c39
        clear c39
        by_cases c40 : x5_2 < (l1_5.length : Int)
        ·rw [if_pos c40] at H
         have c40b0 : decide (x5_2 < (l1_5.length : Int)) = true := decide_eq_true c40
         clear c40
         by_cases c41 : (!(((rd_T127 l0_5 x5_2).f0) == ((rd_T127 l1_5 x5_2).f0)) || (!(((rd_T127 l0_5 x5_2).f1) == ((rd_T127 l1_5 x5_2).f1)))) = true
         ·rw [if_pos c41] at H
          have c41b0 : (!(((rd_T127 l0_5 x5_2).f0) == ((rd_T127 l1_5 x5_2).f0)) || (!(((rd_T127 l0_5 x5_2).f1) == ((rd_T127 l1_5 x5_2).f1)))) = true := c41
          clear c41
          obtain rfl := Option.some.inj H
          have hnb42 := NB1318_1319.out
          have hnc42 := NB1319_1318.out
          obtain ⟨hcz43_0, hcz43_1, hcz43_2, hcz43_3, hcz43_4, hcz43_5, hcz43_6, hcz43_7⟩ := cz8_ BK1318
          obtain ⟨hfz43_0, hfz43_1, hfz43_2, hfz43_3, hfz43_4, hfz43_5, hfz43_6, hfz43_7⟩ := fz8_ BK1318
          have p1320 : 0 ≤ (x5_2 : Int) := of_decide_eq_true as_q
          have q1320 : x5_2 < (l0_5.length : Int) := of_decide_eq_true as_q
          obtain ⟨ad1320, e1320, hx1320_0, hx1320_1⟩ := at_T127 HR0_5.out x5_2 p1320 q1320
          cases e1320
          replace hx1320_0 := (HB.out.cell (World.block_lt_of_cell? w _ hx1320_0)).trans hx1320_0
          replace hx1320_1 := (HB.out.cell (World.block_lt_of_cell? w _ hx1320_1)).trans hx1320_1
          replace p1320 := eq_true p1320
          replace q1320 := eq_true q1320
          obtain ⟨hcz44_0, hcz44_1, hcz44_2, hcz44_3, hcz44_4, hcz44_5, hcz44_6, hcz44_7⟩ := cz8_ BK1319
          obtain ⟨hfz44_0, hfz44_1, hfz44_2, hfz44_3, hfz44_4, hfz44_5, hfz44_6, hfz44_7⟩ := fz8_ BK1319
          have p1321 : 0 ≤ (x5_2 : Int) := of_decide_eq_true as_q
          have q1321 : x5_2 < (l1_5.length : Int) := of_decide_eq_true as_q
          obtain ⟨ad1321, e1321, hx1321_0, hx1321_1⟩ := at_T127 HR1_5.out x5_2 p1321 q1321
          cases e1321
          replace hx1321_0 := (HB.out.cell (World.block_lt_of_cell? w _ hx1321_0)).trans hx1321_0
          replace hx1321_1 := (HB.out.cell (World.block_lt_of_cell? w _ hx1321_1)).trans hx1321_1
          replace p1321 := eq_true p1321
          replace q1321 := eq_true q1321
          go_wp2
          repeat (go_quiet (fail); try go_wp2)
          go_ret
          exact ⟨er_q, bw_q HB⟩
         ·rw [if_neg c41] at H
          have c41b0 : (!(((rd_T127 l0_5 x5_2).f0) == ((rd_T127 l1_5 x5_2).f0)) || (!(((rd_T127 l0_5 x5_2).f1) == ((rd_T127 l1_5 x5_2).f1)))) = false := by simpa using c41
          clear c41
          have H' := Aside0.mk H
          clear H
          have hnb45 := NB1318_1319.out
          have hnc45 := NB1319_1318.out
          obtain ⟨hcz46_0, hcz46_1, hcz46_2, hcz46_3, hcz46_4, hcz46_5, hcz46_6, hcz46_7⟩ := cz8_ BK1318
          obtain ⟨hfz46_0, hfz46_1, hfz46_2, hfz46_3, hfz46_4, hfz46_5, hfz46_6, hfz46_7⟩ := fz8_ BK1318
          have p1320 : 0 ≤ (x5_2 : Int) := of_decide_eq_true as_q
          have q1320 : x5_2 < (l0_5.length : Int) := of_decide_eq_true as_q
          obtain ⟨ad1320, e1320, hx1320_0, hx1320_1⟩ := at_T127 HR0_5.out x5_2 p1320 q1320
          cases e1320
          replace hx1320_0 := (HB.out.cell (World.block_lt_of_cell? w _ hx1320_0)).trans hx1320_0
          replace hx1320_1 := (HB.out.cell (World.block_lt_of_cell? w _ hx1320_1)).trans hx1320_1
          replace p1320 := eq_true p1320
          replace q1320 := eq_true q1320
          obtain ⟨hcz47_0, hcz47_1, hcz47_2, hcz47_3, hcz47_4, hcz47_5, hcz47_6, hcz47_7⟩ := cz8_ BK1319
          obtain ⟨hfz47_0, hfz47_1, hfz47_2, hfz47_3, hfz47_4, hfz47_5, hfz47_6, hfz47_7⟩ := fz8_ BK1319
          have p1321 : 0 ≤ (x5_2 : Int) := of_decide_eq_true as_q
          have q1321 : x5_2 < (l1_5.length : Int) := of_decide_eq_true as_q
          obtain ⟨ad1321, e1321, hx1321_0, hx1321_1⟩ := at_T127 HR1_5.out x5_2 p1321 q1321
          cases e1321
          replace hx1321_0 := (HB.out.cell (World.block_lt_of_cell? w _ hx1321_0)).trans hx1321_0
          replace hx1321_1 := (HB.out.cell (World.block_lt_of_cell? w _ hx1321_1)).trans hx1321_1
          replace p1321 := eq_true p1321
          replace q1321 := eq_true q1321
          go_wp2
          repeat (go_quiet (fail); try go_wp2)
          go_roundg k2
          case measure => have := HJ2.out; have := HK2.out; omega
          case rel => exact ⟨(wrap64 (x5_2 + 1)), (by first | rfl | (simp; done) | (simp [*]; done)), H', ⟨by have := HJ2.out; have := HK2.out; omega⟩, ⟨by refine bz_ ?_; exact BK1318.out⟩, ⟨by refine bz_ ?_; exact BK1319.out⟩, ⟨bw_q HB⟩⟩
        ·rw [if_neg c40] at H
         exact absurd H (by simp)
       ·rw [if_neg c39] at H
        exact absurd H (by simp)
      ·rw [if_neg c38] at H
       have c38b0 : decide (x5_2 < (l0_5.length : Int)) = false := decide_eq_false c38
       clear c38
       obtain rfl := Option.some.inj H
       have hnb48 := NB1318_1319.out
       have hnc48 := NB1319_1318.out
       obtain ⟨hcz49_0, hcz49_1, hcz49_2, hcz49_3, hcz49_4, hcz49_5, hcz49_6, hcz49_7⟩ := cz8_ BK1318
       obtain ⟨hfz49_0, hfz49_1, hfz49_2, hfz49_3, hfz49_4, hfz49_5, hfz49_6, hfz49_7⟩ := fz8_ BK1318
       go_wp2
       repeat (go_quiet (fail); try go_wp2)
       go_ret
       exact ⟨er_q, bw_q HB⟩

end Go.Proofs.Ythjmdiggglkeaaa.Q
