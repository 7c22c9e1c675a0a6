import Derived.Test.YthjmdiggglkeaaaXFnMergesQimplnearOk
import Derived.Test.YthjmdiggglkeaaaXFnMergesQspecl05Install
import Derived.Test.YthjmdiggglkeaaaXFnMergesQspecl05At
import Derived.Test.YthjmdiggglkeaaaXFnMergesQspecl01PickInt
import Derived.Test.YthjmdiggglkeaaaXFnMergesQspecl04Record
/- A Go function as a Lean function, and its contract: for every input the Go code comes to what the Lean function tells. -/





namespace Go.Proofs.Ythjmdiggglkeaaa.Q
open Go.RowKit Go.Proofs.YthjmdiggglkeaaaW.PrintWords Go.Proofs.YthjmdiggglkeaaaW.PrintLast Go.Proofs.YthjmdiggglkeaaaW.PrintMore
attribute [local go_sem] max2_int min2_int max_two min_two max_three min_three max_four min_four   -- for this text's walks alone
set_option linter.unusedVariables false
set_option linter.unusedSimpArgs false

/-! ### spec_l05Store: function 117 -/
def spec_l05Store.l0 : Nat → List (S61) → Int → List Int → Int → Int → Option ((List (S61)) × Int × Int)
 | 0, _, _, _, _, _ => none
 | k + 1, x3, x4, x1000, x1001, x1002 => (spec_l01Below.f x1000 x1001 x1002 12).bind fun bt1387 => (if x4 < bt1387.1 then ((spec_l04Record.f k x1000 bt1387.2.1 bt1387.2.2).bind fun bt1390 => ((spec_l05Install.f k x3 bt1390.1 bt1390.2.1 bt1390.2.2.1 bt1390.2.2.2.1 bt1390.2.2.2.2.1 bt1390.2.2.2.2.2.1 bt1390.2.2.2.2.2.2.1 bt1390.2.2.2.2.2.2.2.1).bind fun bt1402 => (spec_l05Store.l0 k bt1402.1 (wrap64 (x4 + 1)) x1000 bt1390.2.2.2.2.2.2.2.2.1 bt1390.2.2.2.2.2.2.2.2.2))) else (some (x3, bt1387.2.1, bt1387.2.2)))
def spec_l05Store.f (k : Nat) (s0_0 : List Int) (s0_1 : Int) (s0_2 : Int) : Option ((List (S61)) × Int × Int) := spec_l05Store.l0 k (([] : List (S61))) 0 s0_0 s0_1 s0_2
theorem spec_l05Store.mono_l : ∀ k, (∀ y0 y1 y2 y3 y4, LeO (spec_l05Store.l0 k y0 y1 y2 y3 y4) (spec_l05Store.l0 (k + 1) y0 y1 y2 y3 y4))
 | 0 => fun _ _ _ _ _ r h => by simp [spec_l05Store.l0] at h
 | k + 1 => by
  have ih0 := spec_l05Store.mono_l k
  ·intro y0 y1 y2 y3 y4
   unfold spec_l05Store.l0
   repeat' first
   | (with_reducible exact ih0 _ _ _ _ _)
   | (with_reducible exact spec_l04Record.mono _ _ _ _)
   | (with_reducible exact spec_l05Install.mono _ _ _ _ _ _ _ _ _ _)
   | (with_reducible exact LeO.refl _)
   | (with_reducible exact LeO.none _)
   | (with_reducible refine LeO.ite ?_ ?_)
   | (with_reducible refine LeO.bind ?_ (fun _ => ?_))
   | exact ih0 _ _ _ _ _
   | exact spec_l04Record.mono _ _ _ _
   | exact spec_l05Install.mono _ _ _ _ _ _ _ _ _ _
   | exact LeO.none _
   | refine LeO.ite ?_ ?_
   | refine LeO.bind ?_ (fun _ => ?_)
theorem spec_l05Store.mono : ∀ a0 a1 a2 k, LeO (spec_l05Store.f k a0 a1 a2) (spec_l05Store.f (k + 1) a0 a1 a2) := by
 intro a0 a1 a2 k
 have ih0 := spec_l05Store.mono_l k
 unfold spec_l05Store.f
 repeat' first
   | (with_reducible exact ih0 _ _ _ _ _)
   | (with_reducible exact spec_l04Record.mono _ _ _ _)
   | (with_reducible exact spec_l05Install.mono _ _ _ _ _ _ _ _ _ _)
   | (with_reducible exact LeO.refl _)
   | (with_reducible exact LeO.none _)
   | (with_reducible refine LeO.ite ?_ ?_)
   | (with_reducible refine LeO.bind ?_ (fun _ => ?_))
   | exact ih0 _ _ _ _ _
   | exact spec_l04Record.mono _ _ _ _
   | exact spec_l05Install.mono _ _ _ _ _ _ _ _ _ _
   | exact LeO.none _
   | refine LeO.ite ?_ ?_
   | refine LeO.bind ?_ (fun _ => ?_)
set_option maxHeartbeats 8000000 in
set_option maxRecDepth 100000 in
theorem spec_l05Store.calls (k : Nat) (g : Nat) (s0_0 : List Int) (s0_1 : Int) (s0_2 : Int) (r1 : List (S61)) (r2 : Int) (r3 : Int) (w0 w : World) (hI : IsS144 w0 w g s0_0 s0_1 s0_2) (hB : Below w0.heap.size w0 w) (h : spec_l05Store.f k s0_0 s0_1 s0_2 = some (r1, r2, r3)) :
  Calls Try.prog 117 #[.pointer (some ⟨g, 0, none⟩)] w fun e w' => ∃ v0_ : Value, e = .returned (v0_) ∧ Kd.V k61 61 w' w.heap.size (fun k_ => (w.heap.size ≤ k_)) v0_ r1 ∧ IsS144 w0 w' g s0_0 r2 r3 ∧ Below w0.heap.size w0 w' ∧ KeepBut w w' g none := by
 have HI0 := Aside0.mk hI
 have HK := Aside0.mk (KeepBut.refl w g none)
 have HL := Aside0.mk hB.size
 clear hI
 have HW0 := Aside0.mk hB.size
 have HB := Aside0.mk hB
 clear hB
 have H : (spec_l05Store.l0 k (([] : List (S61))) 0 s0_0 s0_1 s0_2) = some (r1, r2, r3) := h
 clear h
 obtain ⟨y1384, hy1384⟩ : ∃ y_ : List (S61), y_ = (([] : List (S61))) := ⟨_, rfl⟩
 replace H : (spec_l05Store.l0 k y1384 0 s0_0 s0_1 s0_2) = some (r1, r2, r3) := by first | (rw [hy1384]; with_reducible exact H) | (have H2_ := (Option.bind_some _ _).symm.trans H; rw [hy1384]; with_reducible exact H2_) | (have H2_ := (Option.bind_some _ _).symm.trans H; with_reducible exact H2_) | with_reducible exact H | (rw [hy1384]; exact H) | exact H
 have Ny1384 := Aside0.mk hy1384
 clear hy1384
 have H' := Aside0.mk H
 clear H
 go_enter Try.func117, Try.ntmps117
 go_wp2_with (first | ((with_reducible refine gate_dst (N := 5) rfl ?_); refine Kd.S_lit k61 _ 61 ?hg (N := 5) ?hd (xs := ([] : List (S61))) (inner := []) (ok := fun _ => True) (okp := fun _ => True) ?hr ?hp (fun _ hk => hk) trivial (Below.refl _ _) (Nat.le_refl _) (by simp) ?_; (case hd => rfl); (case hg => rfl); (case hr => first | (go_simp; done) | (go_simp; rfl)); (case hp => exact (Reps.none _ _)); intro v1385 w2 ho3 hb hg_ hnew_; clear hg_ hnew_; (first | rw [← Ny1384.out] at ho3 | (simp only [Int.reduceToNat] at ho3; rw [← Ny1384.out] at ho3)); have HO1386 := Aside0.mk (Kd.S_lower (Kd.S_newM (M := fun k_ => (w.heap.size ≤ k_)) ho3 (keep_size (w := w) (g := g) (row := none) (by repeat (first | (with_reducible first | exact HK.out | apply KeepBut.set_ | apply keep_drewN | apply keep_drew | apply keep_alloc) | exact HK.out))) (fun k_ h_ => h_)) (keep_size (w := w) (g := g) (row := none) (by repeat (first | (with_reducible first | exact HK.out | apply KeepBut.set_ | apply keep_drewN | apply keep_drew | apply keep_alloc) | exact HK.out)))); replace HK := Aside0.mk (KeepBut.trans (by repeat (first | (with_reducible first | exact HK.out | apply KeepBut.set_ | apply keep_drewN | apply keep_drew | apply keep_alloc) | exact HK.out)) (KeepBut.of_below hb g none) (.inl rfl)); replace HB := Aside0.mk (below_step (by repeat (first | (with_reducible first | exact HB.out | apply below_alloc | apply pw_below_drewN | apply below_drew1 | refine below_set ?_ (IsS144.ge HI0.out)) | exact HB.out)) hb); replace HI0 := Aside0.mk (IsS144.below (by repeat (first | (with_reducible first | exact HI0.out | apply IsS144.alloc | apply IsS144.drewN | apply IsS144.drew | apply IsS144.set_1 | apply IsS144.set_2) | exact HI0.out)) hb); clear hb ho3))
 go_loopg [3, 4] k (fun kq v3 v4 w' => ∃ (x3_1 : List (S61)) (x4_1 : Int) (x1001_1 : Int) (x1002_1 : Int), v4 = .int .i64 x4_1 ∧ Aside0 (spec_l05Store.l0 kq x3_1 x4_1 s0_0 x1001_1 x1002_1 = some (r1, r2, r3)) ∧ Aside0 (kq ≤ k) ∧ Aside0 (Kd.V k61 61 w' w.heap.size (fun k_ => (w.heap.size ≤ k_) ∧ k_ ≠ g) v3 x3_1) ∧ Aside0 (IsS144 w0 w' g s0_0 x1001_1 x1002_1) ∧ Aside0 (KeepBut w w' g none) ∧ Aside0 (Below w0.heap.size w0 w'))
 case atStart => exact ⟨(y1384), (0), (s0_1), (s0_2), (by first | rfl | (simp; done) | (simp [*]; done)), H', ⟨Nat.le_refl _⟩, ⟨Kd.S_V (by (with_reducible repeat (first | apply Kd.S_alloc | apply Kd.S_drewN | apply Kd.S_drew)); exact Kd.S_mono (IsS144.apartS HI0.out HO1386.out (by decide)) (fun _ hk => ⟨hk.1.1, hk.2⟩))⟩, ⟨by repeat (first | (with_reducible first | exact HI0.out | apply IsS144.alloc | apply IsS144.drewN | apply IsS144.drew | apply IsS144.set_1 | apply IsS144.set_2) | exact HI0.out)⟩, ⟨by repeat (first | (with_reducible first | exact HK.out | apply KeepBut.set_ | apply keep_drewN | apply keep_drew | apply keep_alloc) | exact HK.out)⟩, ⟨by repeat (first | (with_reducible first | exact HB.out | apply below_alloc | apply pw_below_drewN | apply below_drew1 | refine below_set ?_ (IsS144.ge HI0.out)) | exact HB.out)⟩⟩
 case round =>
  clear H'
  try clear c1
  try clear p2
  obtain ⟨x3_1, x4_1, x1001_1, x1002_1, rfl, HA, HK1, HO_3, HI0, HK, HB⟩ := hrel
  cases gk with
  | zero => exact absurd HA.out (by simp [spec_l05Store.l0])
  | succ k1 =>
   have H := HA.out
   clear HA
   simp only [spec_l05Store.l0] at H
   replace H := Option.bind_eq_some_iff.mp H
   obtain ⟨⟨t1387, t1388, t1389⟩, A40, H⟩ := H
   replace H : (if x4_1 < t1387 then ((spec_l04Record.f k1 s0_0 t1388 t1389).bind fun bt1390 => ((spec_l05Install.f k1 x3_1 bt1390.1 bt1390.2.1 bt1390.2.2.1 bt1390.2.2.2.1 bt1390.2.2.2.2.1 bt1390.2.2.2.2.2.1 bt1390.2.2.2.2.2.2.1 bt1390.2.2.2.2.2.2.2.1).bind fun bt1402 => (spec_l05Store.l0 k1 bt1402.1 (wrap64 (x4_1 + 1)) s0_0 bt1390.2.2.2.2.2.2.2.2.1 bt1390.2.2.2.2.2.2.2.2.2))) else (some (x3_1, t1388, t1389))) = some (r1, r2, r3) := H
   have A4 := Aside0.mk A40
   clear A40
   have HC5 := Aside0.mk H
   clear H
   go_upto_if 9 with (first | ((with_reducible refine gate_callee (f := 115) rfl ?_); refine goesL_ (some 8) rfl rfl Try.func115 (by kernel_rfl) rfl #[.pointer (some ⟨g, 0, none⟩), .int .i64 12] rfl mp_q ?_; (with_reducible refine (spec_l01Below.calls g s0_0 x1001_1 x1002_1 12 t1387 t1388 t1389 w0 _ ?side1 ?side2 A4.out).mono ?_); (case side1 => repeat (first | (with_reducible first | exact HI0.out | apply IsS144.alloc | apply IsS144.drewN | apply IsS144.drew | apply IsS144.set_1 | apply IsS144.set_2) | exact HI0.out)); (case side2 => repeat (first | (with_reducible first | exact HB.out | apply below_alloc | apply pw_below_drewN | apply below_drew1 | refine below_set ?_ (IsS144.ge HI0.out)) | exact HB.out)); rintro e w6 ⟨rfl, hi, hb, hk⟩; refine ⟨_, rfl, ?_⟩; replace HO_3 := Aside0.mk (Kd.V_mono (Kd.V_keep (Kd.V_mono (ok := fun k_ => (((w.heap.size ≤ k_)) ∧ k_ ≠ g)) (kV_q HO_3) (fun k_ hk_ => (⟨hk_, hk_.2⟩ : _ ∧ k_ ≠ g))) hk (fun _ h => h.2)) (fun _ h => h.1)); replace HK := Aside0.mk (KeepBut.trans (by repeat (first | (with_reducible first | exact HK.out | apply KeepBut.set_ | apply keep_drewN | apply keep_drew | apply keep_alloc) | exact HK.out)) hk (.inl rfl)); replace HB := Aside0.mk (hb); replace HI0 := Aside0.mk (hi); (try clear hb); (try clear hb2); (try clear hk); (try clear hi)))
   have H := HC5.out
   clear HC5
   by_cases c7 : x4_1 < t1387
   ·rw [if_pos c7] at H
    have c7b0 : decide (x4_1 < t1387) = true := decide_eq_true c7
    clear c7
    (first | rw [c7b0] | rw [c7b1] | (simp only [i64_w, i32_w]; first | rw [c7b0] | rw [c7b1]) | skip)
    replace H := Option.bind_eq_some_iff.mp H
    obtain ⟨⟨t1390, t1391, t1392, t1393, t1394, t1395, t1398, t1399, t1400, t1401⟩, A80, H⟩ := H
    replace H : ((spec_l05Install.f k1 x3_1 t1390 t1391 t1392 t1393 t1394 t1395 t1398 t1399).bind fun bt1402 => (spec_l05Store.l0 k1 bt1402.1 (wrap64 (x4_1 + 1)) s0_0 t1400 t1401)) = some (r1, r2, r3) := H
    have A8 := Aside0.mk A80
    clear A80
    replace H := Option.bind_eq_some_iff.mp H
    obtain ⟨⟨t1402, t1405⟩, A90, H⟩ := H
    replace H : (spec_l05Store.l0 k1 t1402 (wrap64 (x4_1 + 1)) s0_0 t1400 t1401) = some (r1, r2, r3) := H
    have A9 := Aside0.mk A90
    clear A90
    have H' := Aside0.mk H
    clear H
    go_wp2_with (first | ((with_reducible refine gate_callee (f := 116) rfl ?_); refine goesL_ (some 15) rfl rfl Try.func116 (by kernel_rfl) rfl #[.pointer (some ⟨g, 0, none⟩)] rfl mp_q ?_; (with_reducible refine (spec_l04Record.calls k1 g s0_0 t1388 t1389 t1390 t1391 t1392 t1393 t1394 t1395 t1398 t1399 t1400 t1401 w0 _ ?side1 ?side2 A8.out).mono ?_); (case side1 => repeat (first | (with_reducible first | exact HI0.out | apply IsS144.alloc | apply IsS144.drewN | apply IsS144.drew | apply IsS144.set_1 | apply IsS144.set_2) | exact HI0.out)); (case side2 => repeat (first | (with_reducible first | exact HB.out | apply below_alloc | apply pw_below_drewN | apply below_drew1 | refine below_set ?_ (IsS144.ge HI0.out)) | exact HB.out)); rintro e w10 ⟨v1396, rfl, ho0, hi, hb, hk⟩; refine ⟨_, rfl, ?_⟩; replace HO_3 := Aside0.mk (Kd.V_mono (Kd.V_told (Kd.V_oldK (Kd.V_mono (ok := fun k_ => (((w.heap.size ≤ k_)) ∧ k_ ≠ g)) (kV_q HO_3) (fun k_ hk_ => (⟨hk_, hk_.2⟩ : _ ∧ k_ ≠ g))) hk) (Kd.R_base ho0)) (fun _ h_ => h_.1)); have HO1397 := Aside0.mk (Kd.R_lower (Kd.R_newM (M := fun k_ => (w.heap.size ≤ k_)) ho0 (keep_size (w := w) (g := g) (row := none) (by repeat (first | (with_reducible first | exact HK.out | apply KeepBut.set_ | apply keep_drewN | apply keep_drew | apply keep_alloc) | exact HK.out))) (fun k_ h_ => h_)) (keep_size (w := w) (g := g) (row := none) (by repeat (first | (with_reducible first | exact HK.out | apply KeepBut.set_ | apply keep_drewN | apply keep_drew | apply keep_alloc) | exact HK.out)))); replace HK := Aside0.mk (KeepBut.trans (by repeat (first | (with_reducible first | exact HK.out | apply KeepBut.set_ | apply keep_drewN | apply keep_drew | apply keep_alloc) | exact HK.out)) hk (.inl rfl)); replace HB := Aside0.mk (hb); replace HI0 := Aside0.mk (hi); (try clear hb); (try clear hb2); (try clear hk); (try clear hi); (try clear ho0); obtain ⟨Ao11, co11, eo11⟩ := Kd.V_slice HO_3.out; subst eo11; obtain ⟨Ao12, co12, eo12⟩ := Kd.R_slice HO1397.out; subst eo12) | ((with_reducible refine gate_callee (f := 93) rfl ?_); refine goesL_ (some 16) rfl rfl Try.func93 (by kernel_rfl) rfl #[.slice Ao11 x3_1.length co11, .agg #[.int .i64 t1390, .int .i64 t1391, .int .i64 t1392, .int .i64 t1393, .int .i64 t1394, .slice Ao12 t1395.length co12, .int .i64 t1398, .bool t1399]] rfl mp_q ?_; (with_reducible refine (spec_l05Install.calls k1 (fun k_ => (((w.heap.size ≤ k_) ∧ k_ ≠ g) ∧ some k_ ≠ (.slice Ao12 t1395.length co12 : Value).ownBlock)) _ _ x3_1 t1390 t1391 t1392 t1393 t1394 (fun k_ => some k_ = (.slice Ao12 t1395.length co12 : Value).ownBlock) _ _ t1395 t1398 t1399 t1402 t1405 _ ?side1 ?side2 A9.out).mono ?_); (case side1 => exact HO_3.out); (case side2 => exact Kd.R_V (Kd.R_tight rfl (IsS144.apart HI0.out (HO1397.out) (by decide)))); rintro e w13 ⟨v1403, rfl, ho0, hb⟩; refine ⟨_, rfl, ?_⟩; replace HO_3 := Aside0.mk (Kd.V_below (kV_q HO_3) hb); have HO1404 := Aside0.mk (Kd.V_lower (Kd.V_mono (ok' := fun k_ => (w.heap.size ≤ k_) ∧ k_ ≠ g) ho0 (fun k_ hk_ => ⟨Or.elim hk_ (fun hs_ => Or.elim hs_ (fun hs_ => hs_.1.1) (fun hs_ => ((IsS144.apart HI0.out (HO1397.out) (by decide)).1 k_ hs_.symm).1.1)) (fun hn_ => (Nat.le_trans (keep_size (w := w) (g := g) (row := none) (by repeat (first | (with_reducible first | exact HK.out | apply KeepBut.set_ | apply keep_drewN | apply keep_drew | apply keep_alloc) | exact HK.out))) hn_)), Or.elim hk_ (fun hs_ => Or.elim hs_ (fun hs_ => hs_.1.2) (fun hs_ => ((IsS144.apart HI0.out (HO1397.out) (by decide)).1 k_ hs_.symm).2)) (fun hn_ => (IsS144.fresh (by repeat (first | (with_reducible first | exact HI0.out | apply IsS144.alloc | apply IsS144.drewN | apply IsS144.drew | apply IsS144.set_1 | apply IsS144.set_2) | exact HI0.out)) k_ hn_))⟩)) (keep_size (w := w) (g := g) (row := none) (by repeat (first | (with_reducible first | exact HK.out | apply KeepBut.set_ | apply keep_drewN | apply keep_drew | apply keep_alloc) | exact HK.out)))); replace HO1397 := Aside0.mk (Kd.R_below (kR_q HO1397) hb); replace HK := Aside0.mk (KeepBut.trans (by repeat (first | (with_reducible first | exact HK.out | apply KeepBut.set_ | apply keep_drewN | apply keep_drew | apply keep_alloc) | exact HK.out)) (KeepBut.of_below hb g none) (.inl rfl)); replace HB := Aside0.mk (below_step (by repeat (first | (with_reducible first | exact HB.out | apply below_alloc | apply pw_below_drewN | apply below_drew1 | refine below_set ?_ (IsS144.ge HI0.out)) | exact HB.out)) hb); replace HI0 := Aside0.mk (IsS144.below (by repeat (first | (with_reducible first | exact HI0.out | apply IsS144.alloc | apply IsS144.drewN | apply IsS144.drew | apply IsS144.set_1 | apply IsS144.set_2) | exact HI0.out)) hb); (try clear hb); (try clear hb2); (try clear hk); (try clear hi); (try clear ho0)))
    go_roundg k1
    case measure => have := HK1.out; omega
    case rel => exact ⟨(t1402), (wrap64 (x4_1 + 1)), (t1400), (t1401), (by first | rfl | (simp; done) | (simp [*]; done)), H', ⟨by have := HK1.out; omega⟩, ⟨by (with_reducible repeat (first | apply Kd.V_alloc | apply Kd.V_drewN | apply Kd.V_drew)); exact HO1404.out⟩, ⟨by repeat (first | (with_reducible first | exact HI0.out | apply IsS144.alloc | apply IsS144.drewN | apply IsS144.drew | apply IsS144.set_1 | apply IsS144.set_2) | exact HI0.out)⟩, ⟨by repeat (first | (with_reducible first | exact HK.out | apply KeepBut.set_ | apply keep_drewN | apply keep_drew | apply keep_alloc) | exact HK.out)⟩, ⟨by repeat (first | (with_reducible first | exact HB.out | apply below_alloc | apply pw_below_drewN | apply below_drew1 | refine below_set ?_ (IsS144.ge HI0.out)) | exact HB.out)⟩⟩
   ·rw [if_neg c7] at H
    have c7b0 : decide (x4_1 < t1387) = false := decide_eq_false c7
    clear c7
    (first | rw [c7b0] | rw [c7b1] | (simp only [i64_w, i32_w]; first | rw [c7b0] | rw [c7b1]) | skip)
    simp only [Option.some.injEq, Prod.mk.injEq] at H
    obtain ⟨rfl, rfl, rfl⟩ := H
    go_wp2
    go_ret
    exact ⟨_, er_q, by (with_reducible repeat (first | apply Kd.V_alloc | apply Kd.V_drewN | apply Kd.V_drew)); exact Kd.V_mono HO_3.out (fun _ hk => hk.1), by repeat (first | (with_reducible first | exact HI0.out | apply IsS144.alloc | apply IsS144.drewN | apply IsS144.drew | apply IsS144.set_1 | apply IsS144.set_2) | exact HI0.out), by repeat (first | (with_reducible first | exact HB.out | apply below_alloc | apply pw_below_drewN | apply below_drew1 | refine below_set ?_ (IsS144.ge HI0.out)) | exact HB.out), by repeat (first | (with_reducible first | exact HK.out | apply KeepBut.set_ | apply keep_drewN | apply keep_drew | apply keep_alloc) | exact HK.out)⟩

end Go.Proofs.Ythjmdiggglkeaaa.Q

/- A Go function as a Lean function, and its contract: for every input the Go code comes to what the Lean function tells. -/



namespace Go.Proofs.Ythjmdiggglkeaaa.Q
open Go.RowKit Go.Proofs.YthjmdiggglkeaaaW.PrintWords Go.Proofs.YthjmdiggglkeaaaW.PrintLast Go.Proofs.YthjmdiggglkeaaaW.PrintMore
attribute [local go_sem] max2_int min2_int max_two min_two max_three min_three max_four min_four   -- for this text's walks alone
set_option linter.unusedVariables false
set_option linter.unusedSimpArgs false

/-! ### spec_DrawStores: function 54 -/
def spec_DrawStores.f (k : Nat) (l0 : List Int) : Option ((List (S61)) × (List (S61))) := (spec_l01New.f k l0).bind fun bt1406 => ((spec_l05Store.f k bt1406.1 bt1406.2.1 bt1406.2.2).bind fun bt1410 => ((spec_l05Store.f k bt1406.1 bt1410.2.1 bt1410.2.2).bind fun bt1415 => (some (bt1410.1, bt1415.1))))
theorem spec_DrawStores.mono : ∀ a0 k, LeO (spec_DrawStores.f k a0) (spec_DrawStores.f (k + 1) a0) := by
 intro a0 k
 unfold spec_DrawStores.f
 repeat' first
   | (with_reducible exact spec_l01New.mono _ _)
   | (with_reducible exact spec_l05Store.mono _ _ _ _)
   | (with_reducible exact LeO.refl _)
   | (with_reducible exact LeO.none _)
   | (with_reducible refine LeO.ite ?_ ?_)
   | (with_reducible refine LeO.bind ?_ (fun _ => ?_))
   | exact spec_l01New.mono _ _
   | exact spec_l05Store.mono _ _ _ _
   | exact LeO.none _
   | refine LeO.ite ?_ ?_
   | refine LeO.bind ?_ (fun _ => ?_)
set_option maxHeartbeats 8000000 in
set_option maxRecDepth 100000 in
theorem spec_DrawStores.calls (k : Nat) (A0 : Option Addr) (c0 : Nat) (l0 : List Int) (r1 : List (S61)) (r2 : List (S61)) (w : World) (hr0 : Kd.C (Kd.int .u8) w A0 l0.length l0) (hc0 : l0.length ≤ c0) (h : spec_DrawStores.f k l0 = some (r1, r2)) :
  Calls Try.prog 54 #[.slice A0 l0.length c0] w fun e w' => ∃ v0_ v1_ : Value, e = .returned (.tuple #[v0_, v1_]) ∧ Kd.V k61 61 w' w.heap.size (fun k_ => (w.heap.size ≤ k_)) v0_ r1 ∧ Kd.V k61 61 w' w.heap.size (fun k_ => (w.heap.size ≤ k_)) v1_ r2 ∧ Below w.heap.size w w' := by
 have HR0 := Aside0.mk hr0
 have HC0 := Aside0.mk hc0
 clear hr0 hc0
 have HB := Aside0.mk (Below.refl w.heap.size w)
 have H : ((spec_l01New.f k l0).bind fun bt1406 => ((spec_l05Store.f k bt1406.1 bt1406.2.1 bt1406.2.2).bind fun bt1410 => ((spec_l05Store.f k bt1406.1 bt1410.2.1 bt1410.2.2).bind fun bt1415 => (some (bt1410.1, bt1415.1))))) = some (r1, r2) := h
 clear h
 replace H := Option.bind_eq_some_iff.mp H
 obtain ⟨⟨t1406, t1407, t1408⟩, A20, H⟩ := H
 replace H : ((spec_l05Store.f k t1406 t1407 t1408).bind fun bt1410 => ((spec_l05Store.f k t1406 bt1410.2.1 bt1410.2.2).bind fun bt1415 => (some (bt1410.1, bt1415.1)))) = some (r1, r2) := H
 have A2 := Aside0.mk A20
 clear A20
 replace H := Option.bind_eq_some_iff.mp H
 obtain ⟨⟨t1410, t1413, t1414⟩, A30, H⟩ := H
 replace H : ((spec_l05Store.f k t1406 t1413 t1414).bind fun bt1415 => (some (t1410, bt1415.1))) = some (r1, r2) := H
 have A3 := Aside0.mk A30
 clear A30
 replace H := Option.bind_eq_some_iff.mp H
 obtain ⟨⟨t1415, t1418, t1419⟩, A40, H⟩ := H
 replace H : (some (t1410, t1415)) = some (r1, r2) := H
 have A4 := Aside0.mk A40
 clear A40
 simp only [Option.some.injEq, Prod.mk.injEq] at H
 obtain ⟨rfl, rfl⟩ := H
 go_enter Try.func54, Try.ntmps54
 go_wp2_with (first | ((with_reducible refine gate_callee (f := 114) rfl ?_); refine goesL_ (some 6) rfl rfl Try.func114 (by kernel_rfl) rfl #[.slice A0 l0.length c0] rfl mp_q ?_; (with_reducible refine (spec_l01New.calls k _ _ l0 t1406 t1407 t1408 w _ ?side1 ?side2 ?side3 A2.out).mono ?_); (case side1 => repeat (first | (with_reducible first | exact HB.out | apply below_alloc | apply pw_below_drewN | apply below_drew1) | exact HB.out)); (case side2 => exact HR0.out); (case side3 => exact HC0.out); rintro e w5 ⟨g1409, rfl, hi, hb, hb2⟩; refine ⟨_, rfl, ?_⟩; replace HB := Aside0.mk (hb); have HI1409 := Aside0.mk (hi); (try clear hb); (try clear hb2); (try clear hk); (try clear hi)) | ((with_reducible refine gate_callee (f := 117) rfl ?_); refine goesL_ (some 8) rfl rfl Try.func117 (by kernel_rfl) rfl #[.pointer (some ⟨g1409, 0, none⟩)] rfl mp_q ?_; (with_reducible refine (spec_l05Store.calls k g1409 t1406 t1407 t1408 t1410 t1413 t1414 w _ ?side1 ?side2 A3.out).mono ?_); (case side1 => repeat (first | (with_reducible first | exact HI1409.out | apply IsS144.alloc | apply IsS144.drewN | apply IsS144.drew | apply IsS144.set_1 | apply IsS144.set_2) | exact HI1409.out)); (case side2 => repeat (first | (with_reducible first | exact HB.out | apply below_alloc | apply pw_below_drewN | apply below_drew1 | refine below_set ?_ (IsS144.ge HI1409.out)) | exact HB.out)); rintro e w6 ⟨v1411, rfl, ho0, hi, hb, hk⟩; refine ⟨_, rfl, ?_⟩; have HO1412 := Aside0.mk (Kd.V_lower (Kd.V_mono (ok' := fun k_ => (w.heap.size ≤ k_) ∧ k_ ≠ g1409) ho0 (fun k_ hk_ => ⟨(Nat.le_trans (below_size (by repeat (first | (with_reducible first | exact HB.out | apply below_alloc | apply pw_below_drewN | apply below_drew1 | refine below_set ?_ (IsS144.ge HI1409.out)) | exact HB.out))) hk_), (IsS144.fresh (by repeat (first | (with_reducible first | exact HI1409.out | apply IsS144.alloc | apply IsS144.drewN | apply IsS144.drew | apply IsS144.set_1 | apply IsS144.set_2) | exact HI1409.out)) k_ hk_)⟩)) (below_size (by repeat (first | (with_reducible first | exact HB.out | apply below_alloc | apply pw_below_drewN | apply below_drew1 | refine below_set ?_ (IsS144.ge HI1409.out)) | exact HB.out)))); replace HB := Aside0.mk (hb); replace HI1409 := Aside0.mk (hi); (try clear hb); (try clear hb2); (try clear hk); (try clear hi); (try clear ho0)) | ((with_reducible refine gate_callee (f := 117) rfl ?_); refine goesL_ (some 10) rfl rfl Try.func117 (by kernel_rfl) rfl #[.pointer (some ⟨g1409, 0, none⟩)] rfl mp_q ?_; (with_reducible refine (spec_l05Store.calls k g1409 t1406 t1413 t1414 t1415 t1418 t1419 w _ ?side1 ?side2 A4.out).mono ?_); (case side1 => repeat (first | (with_reducible first | exact HI1409.out | apply IsS144.alloc | apply IsS144.drewN | apply IsS144.drew | apply IsS144.set_1 | apply IsS144.set_2) | exact HI1409.out)); (case side2 => repeat (first | (with_reducible first | exact HB.out | apply below_alloc | apply pw_below_drewN | apply below_drew1 | refine below_set ?_ (IsS144.ge HI1409.out)) | exact HB.out)); rintro e w7 ⟨v1416, rfl, ho0, hi, hb, hk⟩; refine ⟨_, rfl, ?_⟩; replace HO1412 := Aside0.mk (Kd.V_mono (Kd.V_keep (Kd.V_mono (ok := fun k_ => (((w.heap.size ≤ k_)) ∧ k_ ≠ g1409)) (kV_q HO1412) (fun k_ hk_ => (⟨hk_, hk_.2⟩ : _ ∧ k_ ≠ g1409))) hk (fun _ h => h.2)) (fun _ h => h.1)); have HO1417 := Aside0.mk (Kd.V_lower (Kd.V_mono (ok' := fun k_ => (w.heap.size ≤ k_) ∧ k_ ≠ g1409) ho0 (fun k_ hk_ => ⟨(Nat.le_trans (below_size (by repeat (first | (with_reducible first | exact HB.out | apply below_alloc | apply pw_below_drewN | apply below_drew1 | refine below_set ?_ (IsS144.ge HI1409.out)) | exact HB.out))) hk_), (IsS144.fresh (by repeat (first | (with_reducible first | exact HI1409.out | apply IsS144.alloc | apply IsS144.drewN | apply IsS144.drew | apply IsS144.set_1 | apply IsS144.set_2) | exact HI1409.out)) k_ hk_)⟩)) (below_size (by repeat (first | (with_reducible first | exact HB.out | apply below_alloc | apply pw_below_drewN | apply below_drew1 | refine below_set ?_ (IsS144.ge HI1409.out)) | exact HB.out)))); replace HB := Aside0.mk (hb); replace HI1409 := Aside0.mk (hi); (try clear hb); (try clear hb2); (try clear hk); (try clear hi); (try clear ho0)))
 go_ret2
 exact ⟨_, _, er_q, by (with_reducible repeat (first | apply Kd.V_alloc | apply Kd.V_drewN | apply Kd.V_drew)); exact Kd.V_mono HO1412.out (fun _ hk => hk.1), by (with_reducible repeat (first | apply Kd.V_alloc | apply Kd.V_drewN | apply Kd.V_drew)); exact Kd.V_mono HO1417.out (fun _ hk => hk.1), by repeat (first | (with_reducible first | exact HB.out | apply below_alloc | apply pw_below_drewN | apply below_drew1 | refine below_set ?_ (IsS144.ge HI1409.out)) | exact HB.out)⟩

end Go.Proofs.Ythjmdiggglkeaaa.Q
