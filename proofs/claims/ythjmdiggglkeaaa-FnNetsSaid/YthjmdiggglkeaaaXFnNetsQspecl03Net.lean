import Derived.Test.YthjmdiggglkeaaaXFnNetsQimplless
import Derived.Test.YthjmdiggglkeaaaXFnNetsQspecl03Put
import Derived.Test.YthjmdiggglkeaaaXFnNetsQspecl03PutThing
/- A Go function as a Lean function, and its contract: for every input the Go code comes to what the Lean function tells. -/







namespace Go.Proofs.Ythjmdiggglkeaaa.Q
open Go.RowKit Go.Proofs.YthjmdiggglkeaaaW.PrintWords Go.Proofs.YthjmdiggglkeaaaW.PrintLast Go.Proofs.YthjmdiggglkeaaaW.PrintMore
attribute [local go_sem] max2_int min2_int max_two min_two max_three min_three max_four min_four   -- for this text's walks alone
set_option linter.unusedVariables false
set_option linter.unusedSimpArgs false

/-! ### spec_l03Net: function 120 -/
mutual
def spec_l03Net.l0 : Nat → Int → List Int → Int → Int → Int → List (S93) → Option (Int × (List (S93)) × (List (S102)) × Int × Int)
 | 0, _, _, _, _, _, _ => none
 | k + 1, x4, x1000, x1001, x1002, x1622000, x1622001 => (spec_l01Below.f x1000 x1001 x1002 3).bind fun bt1622 => (if x4 < (wrap64 (x1622000 + bt1622.1)) then ((spec_l01Below.f x1000 bt1622.2.1 bt1622.2.2 x1622000).bind fun bt1625 => ((spec_l01Below.f x1000 bt1625.2.1 bt1625.2.2 x1622000).bind fun bt1628 => (if (wrap64 (x4 + 1)) < x1622000 then (spec_l03Net.j1 k x4 (wrap64 (x4 + 1)) (wrap64 (x4 + 2)) x1000 bt1628.2.1 bt1628.2.2 x1622000 x1622001) else (spec_l03Net.j1 k x4 (wrap64 (1 + bt1625.1)) (wrap64 (1 + bt1628.1)) x1000 bt1628.2.1 bt1628.2.2 x1622000 x1622001)))) else (spec_l03Net.l1 k 0 x1000 bt1622.2.1 bt1622.2.2 x1622000 x1622001 ([] : List (S102))))
def spec_l03Net.j1 : Nat → Int → Int → Int → List Int → Int → Int → Int → List (S93) → Option (Int × (List (S93)) × (List (S102)) × Int × Int)
 | 0, _, _, _, _, _, _, _, _ => none
 | k + 1, x4, x5, x6, x1000, x1001, x1002, x1622000, x1622001 => if x5 = x6 then (if x1622000 = 0 then (none) else (spec_l03Net.j2 k x4 x5 (wrap64 ((Int.tmod x5 x1622000) + 1)) x1000 x1001 x1002 x1622000 x1622001)) else (spec_l03Net.j2 k x4 x5 x6 x1000 x1001 x1002 x1622000 x1622001)
def spec_l03Net.j2 : Nat → Int → Int → Int → List Int → Int → Int → Int → List (S93) → Option (Int × (List (S93)) × (List (S102)) × Int × Int)
 | 0, _, _, _, _, _, _, _, _ => none
 | k + 1, x4, x5, x6, x1000, x1001, x1002, x1622000, x1622001 => if x5 > x6 then (spec_l03Net.j3 k x4 x6 x5 x1000 x1001 x1002 x1622000 x1622001) else (spec_l03Net.j3 k x4 x5 x6 x1000 x1001 x1002 x1622000 x1622001)
def spec_l03Net.j3 : Nat → Int → Int → Int → List Int → Int → Int → Int → List (S93) → Option (Int × (List (S93)) × (List (S102)) × Int × Int)
 | 0, _, _, _, _, _, _, _, _ => none
 | k + 1, x4, x5, x6, x1000, x1001, x1002, x1622000, x1622001 => (spec_l01Below.f x1000 x1001 x1002 4).bind fun bt1631 => ((spec_l01PickInt.f x1000 bt1631.2.1 bt1631.2.2 (([0, 0, 1, 2] : List Int))).bind fun bt1637 => (if (x1622001.length : Int) < 12 then ((spec_l03Put.f k x1622001 x5 x6 (wrap64 (1 + bt1631.1)) bt1637.1).bind fun t1641 => (spec_l03Net.l0 k (wrap64 (x4 + 1)) x1000 bt1637.2.1 bt1637.2.2 x1622000 t1641)) else (spec_l03Net.l0 k (wrap64 (x4 + 1)) x1000 bt1637.2.1 bt1637.2.2 x1622000 x1622001)))
def spec_l03Net.l1 : Nat → Int → List Int → Int → Int → Int → List (S93) → List (S102) → Option (Int × (List (S93)) × (List (S102)) × Int × Int)
 | 0, _, _, _, _, _, _, _ => none
 | k + 1, x8, x1000, x1001, x1002, x1622000, x1622001, x1622002 => (spec_l01Below.f x1000 x1001 x1002 3).bind fun bt1644 => (if x8 < bt1644.1 then ((spec_l01Below.f x1000 bt1644.2.1 bt1644.2.2 x1622000).bind fun bt1647 => ((spec_l01Below.f x1000 bt1647.2.1 bt1647.2.2 3).bind fun bt1650 => ((spec_l01Below.f x1000 bt1650.2.1 bt1650.2.2 5).bind fun bt1653 => ((spec_l01Once.f x1000 bt1653.2.1 bt1653.2.2 2).bind fun bt1656 => ((spec_l03PutThing.f k x1622002 (wrap64 (1 + bt1647.1)) (wrap64 (1 + bt1650.1)) (wrap64 (1 + bt1653.1)) bt1656.1).bind fun t1659 => (spec_l03Net.l1 k (wrap64 (x8 + 1)) x1000 bt1656.2.1 bt1656.2.2 x1622000 x1622001 t1659)))))) else (some (x1622000, x1622001, x1622002, bt1644.2.1, bt1644.2.2)))
end
def spec_l03Net.f (k : Nat) (s0_0 : List Int) (s0_1 : Int) (s0_2 : Int) : Option (Int × (List (S93)) × (List (S102)) × Int × Int) := (spec_l01Below.f s0_0 s0_1 s0_2 4).bind fun bt1618 => (spec_l03Net.l0 k 0 s0_0 bt1618.2.1 bt1618.2.2 (wrap64 (2 + bt1618.1)) ([] : List (S93)))
theorem spec_l03Net.mono_l : ∀ k, (∀ y0 y1 y2 y3 y4 y5, LeO (spec_l03Net.l0 k y0 y1 y2 y3 y4 y5) (spec_l03Net.l0 (k + 1) y0 y1 y2 y3 y4 y5)) ∧ (∀ y0 y1 y2 y3 y4 y5 y6 y7, LeO (spec_l03Net.j1 k y0 y1 y2 y3 y4 y5 y6 y7) (spec_l03Net.j1 (k + 1) y0 y1 y2 y3 y4 y5 y6 y7)) ∧ (∀ y0 y1 y2 y3 y4 y5 y6 y7, LeO (spec_l03Net.j2 k y0 y1 y2 y3 y4 y5 y6 y7) (spec_l03Net.j2 (k + 1) y0 y1 y2 y3 y4 y5 y6 y7)) ∧ (∀ y0 y1 y2 y3 y4 y5 y6 y7, LeO (spec_l03Net.j3 k y0 y1 y2 y3 y4 y5 y6 y7) (spec_l03Net.j3 (k + 1) y0 y1 y2 y3 y4 y5 y6 y7)) ∧ (∀ y0 y1 y2 y3 y4 y5 y6, LeO (spec_l03Net.l1 k y0 y1 y2 y3 y4 y5 y6) (spec_l03Net.l1 (k + 1) y0 y1 y2 y3 y4 y5 y6))
 | 0 => ⟨fun _ _ _ _ _ _ r h => by simp [spec_l03Net.l0] at h, fun _ _ _ _ _ _ _ _ r h => by simp [spec_l03Net.j1] at h, fun _ _ _ _ _ _ _ _ r h => by simp [spec_l03Net.j2] at h, fun _ _ _ _ _ _ _ _ r h => by simp [spec_l03Net.j3] at h, fun _ _ _ _ _ _ _ r h => by simp [spec_l03Net.l1] at h⟩
 | k + 1 => by
  obtain ⟨ih0, ih1, ih2, ih3, ih4⟩ := spec_l03Net.mono_l k
  refine ⟨?_, ?_, ?_, ?_, ?_⟩
  ·intro y0 y1 y2 y3 y4 y5
   unfold spec_l03Net.l0
   repeat' first
   | (with_reducible exact ih0 _ _ _ _ _ _)
   | (with_reducible exact ih1 _ _ _ _ _ _ _ _)
   | (with_reducible exact ih2 _ _ _ _ _ _ _ _)
   | (with_reducible exact ih3 _ _ _ _ _ _ _ _)
   | (with_reducible exact ih4 _ _ _ _ _ _ _)
   | (with_reducible exact spec_l03Put.mono _ _ _ _ _ _)
   | (with_reducible exact spec_l03PutThing.mono _ _ _ _ _ _)
   | (with_reducible exact LeO.refl _)
   | (with_reducible exact LeO.none _)
   | (with_reducible refine LeO.ite ?_ ?_)
   | (with_reducible refine LeO.bind ?_ (fun _ => ?_))
   | exact ih0 _ _ _ _ _ _
   | exact ih1 _ _ _ _ _ _ _ _
   | exact ih2 _ _ _ _ _ _ _ _
   | exact ih3 _ _ _ _ _ _ _ _
   | exact ih4 _ _ _ _ _ _ _
   | exact spec_l03Put.mono _ _ _ _ _ _
   | exact spec_l03PutThing.mono _ _ _ _ _ _
   | exact LeO.none _
   | refine LeO.ite ?_ ?_
   | refine LeO.bind ?_ (fun _ => ?_)
  ·intro y0 y1 y2 y3 y4 y5 y6 y7
   unfold spec_l03Net.j1
   repeat' first
   | (with_reducible exact ih0 _ _ _ _ _ _)
   | (with_reducible exact ih1 _ _ _ _ _ _ _ _)
   | (with_reducible exact ih2 _ _ _ _ _ _ _ _)
   | (with_reducible exact ih3 _ _ _ _ _ _ _ _)
   | (with_reducible exact ih4 _ _ _ _ _ _ _)
   | (with_reducible exact spec_l03Put.mono _ _ _ _ _ _)
   | (with_reducible exact spec_l03PutThing.mono _ _ _ _ _ _)
   | (with_reducible exact LeO.refl _)
   | (with_reducible exact LeO.none _)
   | (with_reducible refine LeO.ite ?_ ?_)
   | (with_reducible refine LeO.bind ?_ (fun _ => ?_))
   | exact ih0 _ _ _ _ _ _
   | exact ih1 _ _ _ _ _ _ _ _
   | exact ih2 _ _ _ _ _ _ _ _
   | exact ih3 _ _ _ _ _ _ _ _
   | exact ih4 _ _ _ _ _ _ _
   | exact spec_l03Put.mono _ _ _ _ _ _
   | exact spec_l03PutThing.mono _ _ _ _ _ _
   | exact LeO.none _
   | refine LeO.ite ?_ ?_
   | refine LeO.bind ?_ (fun _ => ?_)
  ·intro y0 y1 y2 y3 y4 y5 y6 y7
   unfold spec_l03Net.j2
   repeat' first
   | (with_reducible exact ih0 _ _ _ _ _ _)
   | (with_reducible exact ih1 _ _ _ _ _ _ _ _)
   | (with_reducible exact ih2 _ _ _ _ _ _ _ _)
   | (with_reducible exact ih3 _ _ _ _ _ _ _ _)
   | (with_reducible exact ih4 _ _ _ _ _ _ _)
   | (with_reducible exact spec_l03Put.mono _ _ _ _ _ _)
   | (with_reducible exact spec_l03PutThing.mono _ _ _ _ _ _)
   | (with_reducible exact LeO.refl _)
   | (with_reducible exact LeO.none _)
   | (with_reducible refine LeO.ite ?_ ?_)
   | (with_reducible refine LeO.bind ?_ (fun _ => ?_))
   | exact ih0 _ _ _ _ _ _
   | exact ih1 _ _ _ _ _ _ _ _
   | exact ih2 _ _ _ _ _ _ _ _
   | exact ih3 _ _ _ _ _ _ _ _
   | exact ih4 _ _ _ _ _ _ _
   | exact spec_l03Put.mono _ _ _ _ _ _
   | exact spec_l03PutThing.mono _ _ _ _ _ _
   | exact LeO.none _
   | refine LeO.ite ?_ ?_
   | refine LeO.bind ?_ (fun _ => ?_)
  ·intro y0 y1 y2 y3 y4 y5 y6 y7
   unfold spec_l03Net.j3
   repeat' first
   | (with_reducible exact ih0 _ _ _ _ _ _)
   | (with_reducible exact ih1 _ _ _ _ _ _ _ _)
   | (with_reducible exact ih2 _ _ _ _ _ _ _ _)
   | (with_reducible exact ih3 _ _ _ _ _ _ _ _)
   | (with_reducible exact ih4 _ _ _ _ _ _ _)
   | (with_reducible exact spec_l03Put.mono _ _ _ _ _ _)
   | (with_reducible exact spec_l03PutThing.mono _ _ _ _ _ _)
   | (with_reducible exact LeO.refl _)
   | (with_reducible exact LeO.none _)
   | (with_reducible refine LeO.ite ?_ ?_)
   | (with_reducible refine LeO.bind ?_ (fun _ => ?_))
   | exact ih0 _ _ _ _ _ _
   | exact ih1 _ _ _ _ _ _ _ _
   | exact ih2 _ _ _ _ _ _ _ _
   | exact ih3 _ _ _ _ _ _ _ _
   | exact ih4 _ _ _ _ _ _ _
   | exact spec_l03Put.mono _ _ _ _ _ _
   | exact spec_l03PutThing.mono _ _ _ _ _ _
   | exact LeO.none _
   | refine LeO.ite ?_ ?_
   | refine LeO.bind ?_ (fun _ => ?_)
  ·intro y0 y1 y2 y3 y4 y5 y6
   unfold spec_l03Net.l1
   repeat' first
   | (with_reducible exact ih0 _ _ _ _ _ _)
   | (with_reducible exact ih1 _ _ _ _ _ _ _ _)
   | (with_reducible exact ih2 _ _ _ _ _ _ _ _)
   | (with_reducible exact ih3 _ _ _ _ _ _ _ _)
   | (with_reducible exact ih4 _ _ _ _ _ _ _)
   | (with_reducible exact spec_l03Put.mono _ _ _ _ _ _)
   | (with_reducible exact spec_l03PutThing.mono _ _ _ _ _ _)
   | (with_reducible exact LeO.refl _)
   | (with_reducible exact LeO.none _)
   | (with_reducible refine LeO.ite ?_ ?_)
   | (with_reducible refine LeO.bind ?_ (fun _ => ?_))
   | exact ih0 _ _ _ _ _ _
   | exact ih1 _ _ _ _ _ _ _ _
   | exact ih2 _ _ _ _ _ _ _ _
   | exact ih3 _ _ _ _ _ _ _ _
   | exact ih4 _ _ _ _ _ _ _
   | exact spec_l03Put.mono _ _ _ _ _ _
   | exact spec_l03PutThing.mono _ _ _ _ _ _
   | exact LeO.none _
   | refine LeO.ite ?_ ?_
   | refine LeO.bind ?_ (fun _ => ?_)
theorem spec_l03Net.mono : ∀ a0 a1 a2 k, LeO (spec_l03Net.f k a0 a1 a2) (spec_l03Net.f (k + 1) a0 a1 a2) := by
 intro a0 a1 a2 k
 obtain ⟨ih0, ih1, ih2, ih3, ih4⟩ := spec_l03Net.mono_l k
 unfold spec_l03Net.f
 repeat' first
   | (with_reducible exact ih0 _ _ _ _ _ _)
   | (with_reducible exact ih1 _ _ _ _ _ _ _ _)
   | (with_reducible exact ih2 _ _ _ _ _ _ _ _)
   | (with_reducible exact ih3 _ _ _ _ _ _ _ _)
   | (with_reducible exact ih4 _ _ _ _ _ _ _)
   | (with_reducible exact spec_l03Put.mono _ _ _ _ _ _)
   | (with_reducible exact spec_l03PutThing.mono _ _ _ _ _ _)
   | (with_reducible exact LeO.refl _)
   | (with_reducible exact LeO.none _)
   | (with_reducible refine LeO.ite ?_ ?_)
   | (with_reducible refine LeO.bind ?_ (fun _ => ?_))
   | exact ih0 _ _ _ _ _ _
   | exact ih1 _ _ _ _ _ _ _ _
   | exact ih2 _ _ _ _ _ _ _ _
   | exact ih3 _ _ _ _ _ _ _ _
   | exact ih4 _ _ _ _ _ _ _
   | exact spec_l03Put.mono _ _ _ _ _ _
   | exact spec_l03PutThing.mono _ _ _ _ _ _
   | exact LeO.none _
   | refine LeO.ite ?_ ?_
   | refine LeO.bind ?_ (fun _ => ?_)
def spec_l03Net.T20 : Bool × List (List Nat × List Nat) := (true, [([], []), ([0], [0]), ([], []), ([], []), ([3], [3]), ([2, 4], [2, 4]), ([5], [5]), ([], []), ([7, 5], [7]), ([8], [8]), ([], []), ([10, 8], [10]), ([11], [11]), ([], []), ([13, 11], [13]), ([6, 9, 12, 14], [6, 9, 12, 14]), ([1, 15, 14], [1, 15]), ([0, 1, 2, 3, 4, 5, 6, 7, 8, 9, 10, 11, 12, 13, 14, 15, 16], []), ([17, 16, 16, 0, 1, 2, 3, 4, 5, 6, 7, 8, 9, 10, 11, 12, 13, 14, 15, 16], [16, 17])])
def spec_l03Net.B20 : List Nat := [0, 1, 0, 0, 8, 28, 60, 0, 188, 444, 0, 1468, 3516, 0, 11708, 32764, 65535, 131071, 262143]
theorem spec_l03Net.tab20 : rtab .any (opsOf Try.f120 20) = spec_l03Net.T20 := by kernel_rfl
theorem spec_l03Net.bits20 : waitsOk spec_l03Net.T20.2 spec_l03Net.B20 = true := by kernel_rfl
set_option maxHeartbeats 8000000 in
set_option maxRecDepth 100000 in
theorem spec_l03Net.calls (k : Nat) (g : Nat) (s0_0 : List Int) (s0_1 : Int) (s0_2 : Int) (r1 : Int) (r2 : List (S93)) (r3 : List (S102)) (r4 : Int) (r5 : Int) (w0 w : World) (hI : IsS144 w0 w g s0_0 s0_1 s0_2) (hB : Below w0.heap.size w0 w) (h : spec_l03Net.f k s0_0 s0_1 s0_2 = some (r1, r2, r3, r4, r5)) :
  Calls Try.prog 120 #[.pointer (some ⟨g, 0, none⟩)] w fun e w' => ∃ v1_ v2_ : Value, e = .returned (.agg #[.int .i64 r1, v1_, v2_]) ∧ Kd.R k93 93 w' w.heap.size (fun _ => True) v1_ r2 ∧ Kd.R k102 102 w' w.heap.size (fun _ => True) v2_ r3 ∧ IsS144 w0 w' g s0_0 r4 r5 ∧ Below w0.heap.size w0 w' ∧ KeepBut w w' g none := by
 have hu31 := Try.underlying31
 have hu93 := Try.underlying93
 have hu102 := Try.underlying102
 have HI0 := Aside0.mk hI
 have HK := Aside0.mk (KeepBut.refl w g none)
 have HL := Aside0.mk hB.size
 clear hI
 have HW0 := Aside0.mk hB.size
 have HB := Aside0.mk hB
 clear hB
 have H : ((spec_l01Below.f s0_0 s0_1 s0_2 4).bind fun bt1618 => (spec_l03Net.l0 k 0 s0_0 bt1618.2.1 bt1618.2.2 (wrap64 (2 + bt1618.1)) ([] : List (S93)))) = some (r1, r2, r3, r4, r5) := h
 clear h
 replace H := Option.bind_eq_some_iff.mp H
 obtain ⟨⟨t1618, t1619, t1620⟩, A20, H⟩ := H
 replace H : (spec_l03Net.l0 k 0 s0_0 t1619 t1620 (wrap64 (2 + t1618)) ([] : List (S93))) = some (r1, r2, r3, r4, r5) := H
 have A2 := Aside0.mk A20
 clear A20
 have H' := Aside0.mk H
 clear H
 go_enter Try.func120, Try.ntmps120
 go_wp2_with (first | ((with_reducible refine gate_dst (N := 2) rfl ?_); refine box_q 2 #[.int .i64 0, .slice none 0 0, .slice none 0 0] 31 ?_; intro gb1617 hg w3 hbox hb; replace HB := Aside0.mk (below_step (by repeat (first | (with_reducible first | exact HB.out | apply below_alloc | apply pw_below_drewN | apply below_drew1 | refine below_set ?_ (IsS144.ge HI0.out)) | exact HB.out)) hb); have BK1617 := Aside0.mk (hbox); have GW1617 := Aside0.mk ((by rw [hg]; exact (keep_size (w := w) (g := g) (row := none) (by repeat (first | (with_reducible first | exact HK.out | apply KeepBut.set_ | apply keep_drewN | apply keep_drew | apply keep_alloc) | exact HK.out))) : w.heap.size ≤ gb1617)); have GE1617 := Aside0.mk ((Nat.le_trans HW0.out (by rw [hg]; exact (keep_size (w := w) (g := g) (row := none) (by repeat (first | (with_reducible first | exact HK.out | apply KeepBut.set_ | apply keep_drewN | apply keep_drew | apply keep_alloc) | exact HK.out))) : w.heap.size ≤ gb1617) : w0.heap.size ≤ gb1617)); replace HK := Aside0.mk (KeepBut.trans (by repeat (first | (with_reducible first | exact HK.out | apply KeepBut.set_ | apply keep_drewN | apply keep_drew | apply keep_alloc) | exact HK.out)) (KeepBut.of_below hb g none) (.inl rfl)); have NB0_1617 := Aside0.mk ((by rw [hg]; exact Nat.ne_of_lt (IsS144.lt (show IsS144 w0 _ g s0_0 s0_1 s0_2 from by repeat (first | (with_reducible first | exact HI0.out | apply IsS144.alloc | apply IsS144.drewN | apply IsS144.drew | apply IsS144.set_1 | apply IsS144.set_2) | exact HI0.out))) : g ≠ gb1617)); have NB1617_0 := Aside0.mk ((by rw [hg]; exact Nat.ne_of_gt (IsS144.lt (show IsS144 w0 _ g s0_0 s0_1 s0_2 from by repeat (first | (with_reducible first | exact HI0.out | apply IsS144.alloc | apply IsS144.drewN | apply IsS144.drew | apply IsS144.set_1 | apply IsS144.set_2) | exact HI0.out))) : gb1617 ≠ g)); replace HI0 := Aside0.mk (IsS144.below (by repeat (first | (with_reducible first | exact HI0.out | apply IsS144.alloc | apply IsS144.drewN | apply IsS144.drew | apply IsS144.set_1 | apply IsS144.set_2) | exact HI0.out)) hb); clear hb hbox hg) | ((with_reducible refine gate_callee (f := 115) rfl ?_); refine goesL_ (some 10) rfl rfl Try.func115 (by kernel_rfl) rfl #[.pointer (some ⟨g, 0, none⟩), .int .i64 4] rfl mp_q ?_; (with_reducible refine (spec_l01Below.calls g s0_0 s0_1 s0_2 4 t1618 t1619 t1620 w0 _ ?side1 ?side2 A2.out).mono ?_); (case side1 => repeat (first | (with_reducible first | exact HI0.out | apply IsS144.alloc | apply IsS144.drewN | apply IsS144.drew | apply IsS144.set_1 | apply IsS144.set_2 | refine IsS144.far ?_ NB0_1617.out _) | exact HI0.out)); (case side2 => repeat (first | (with_reducible first | exact HB.out | apply below_alloc | apply pw_below_drewN | apply below_drew1 | refine below_set ?_ (IsS144.ge HI0.out) | refine below_set ?_ GE1617.out) | exact HB.out)); rintro e w4 ⟨rfl, hi, hb, hk⟩; refine ⟨_, rfl, ?_⟩; replace BK1617 := Aside0.mk (KeepBut.blk hk (g' := gb1617) (o := .cells #[.int .i64 0, .slice none 0 0, .slice none 0 0] 31 (0, 0)) (bk_q BK1617) NB1617_0.out (by simp)); replace HK := Aside0.mk (KeepBut.trans (by repeat (first | (with_reducible first | exact HK.out | apply KeepBut.set_ | apply keep_drewN | apply keep_drew | apply keep_alloc | refine keep_far ?_ GW1617.out _) | exact HK.out)) hk (.inl rfl)); replace HB := Aside0.mk (hb); replace HI0 := Aside0.mk (hi); (try clear hb); (try clear hb2); (try clear hk); (try clear hi)) | ((with_reducible refine gate_dst (N := 3) rfl ?_); refine box_q 3 #[.int .i64 0, .slice none 0 0, .slice none 0 0] 31 ?_; intro gb1621 hg w5 hbox hb; replace HB := Aside0.mk (below_step (by repeat (first | (with_reducible first | exact HB.out | apply below_alloc | apply pw_below_drewN | apply below_drew1 | refine below_set ?_ (IsS144.ge HI0.out) | refine below_set ?_ GE1617.out) | exact HB.out)) hb); have BK1621 := Aside0.mk (hbox); have GW1621 := Aside0.mk ((by rw [hg]; exact (keep_size (w := w) (g := g) (row := none) (by repeat (first | (with_reducible first | exact HK.out | apply KeepBut.set_ | apply keep_drewN | apply keep_drew | apply keep_alloc | refine keep_far ?_ GW1617.out _) | exact HK.out))) : w.heap.size ≤ gb1621)); have GE1621 := Aside0.mk ((Nat.le_trans HW0.out (by rw [hg]; exact (keep_size (w := w) (g := g) (row := none) (by repeat (first | (with_reducible first | exact HK.out | apply KeepBut.set_ | apply keep_drewN | apply keep_drew | apply keep_alloc | refine keep_far ?_ GW1617.out _) | exact HK.out))) : w.heap.size ≤ gb1621) : w0.heap.size ≤ gb1621)); replace HK := Aside0.mk (KeepBut.trans (by repeat (first | (with_reducible first | exact HK.out | apply KeepBut.set_ | apply keep_drewN | apply keep_drew | apply keep_alloc | refine keep_far ?_ GW1617.out _) | exact HK.out)) (KeepBut.of_below hb g none) (.inl rfl)); have NB1617_1621 := Aside0.mk ((by rw [hg]; exact Nat.ne_of_lt (blk_lt (g := gb1617) (o := .cells #[.int .i64 0, .slice none 0 0, .slice none 0 0] 31 (0, 0)) (bk_q BK1617)) : gb1617 ≠ gb1621)); have NB1621_1617 := Aside0.mk ((by rw [hg]; exact Nat.ne_of_gt (blk_lt (g := gb1617) (o := .cells #[.int .i64 0, .slice none 0 0, .slice none 0 0] 31 (0, 0)) (bk_q BK1617)) : gb1621 ≠ gb1617)); replace BK1617 := Aside0.mk (blk_below (g := gb1617) (bk_q BK1617) hb); have NB0_1621 := Aside0.mk ((by rw [hg]; exact Nat.ne_of_lt (IsS144.lt (show IsS144 w0 _ g s0_0 t1619 t1620 from by repeat (first | (with_reducible first | exact HI0.out | apply IsS144.alloc | apply IsS144.drewN | apply IsS144.drew | apply IsS144.set_1 | apply IsS144.set_2 | refine IsS144.far ?_ NB0_1617.out _) | exact HI0.out))) : g ≠ gb1621)); have NB1621_0 := Aside0.mk ((by rw [hg]; exact Nat.ne_of_gt (IsS144.lt (show IsS144 w0 _ g s0_0 t1619 t1620 from by repeat (first | (with_reducible first | exact HI0.out | apply IsS144.alloc | apply IsS144.drewN | apply IsS144.drew | apply IsS144.set_1 | apply IsS144.set_2 | refine IsS144.far ?_ NB0_1617.out _) | exact HI0.out))) : gb1621 ≠ g)); replace HI0 := Aside0.mk (IsS144.below (by repeat (first | (with_reducible first | exact HI0.out | apply IsS144.alloc | apply IsS144.drewN | apply IsS144.drew | apply IsS144.set_1 | apply IsS144.set_2 | refine IsS144.far ?_ NB0_1617.out _) | exact HI0.out)) hb); clear hb hbox hg; have hnb6 := NB1621_1617.out; have hnc6 := NB1617_1621.out; have hnb7 := NB1621_0.out; have hnc7 := NB0_1621.out; have hcz8_0 : w5.cell? ⟨gb1621, 0, none⟩ = some (.int .i64 0) := (blk_cell BK1621.out 0).trans rfl; have hcz8_1 : w5.cell? ⟨gb1621, 1, none⟩ = some (.slice none 0 0) := (blk_cell BK1621.out 1).trans rfl; have hcz8_2 : w5.cell? ⟨gb1621, 2, none⟩ = some (.slice none 0 0) := (blk_cell BK1621.out 2).trans rfl; have hfz8_0 := blk_frozen BK1621.out 0; have hfz8_1 := blk_frozen BK1621.out 1; have hfz8_2 := blk_frozen BK1621.out 2))
 go_loopg [4] k (fun kq v4 w' => ∃ (x4_1 : Int) (x1001_1 : Int) (x1002_1 : Int) (x1622001_1 : List (S93)) (u1622001 : Value), v4 = .int .i64 x4_1 ∧ Aside0 (spec_l03Net.l0 kq x4_1 s0_0 x1001_1 x1002_1 (wrap64 (2 + t1618)) x1622001_1 = some (r1, r2, r3, r4, r5)) ∧ Aside0 (kq ≤ k) ∧ Aside0 (Kd.R k93 93 w' w.heap.size (fun _ => True) u1622001 x1622001_1) ∧ Aside0 (w'.heap[gb1617]? = some (.cells #[.int .i64 0, (.slice none 0 0), (.slice none 0 0)] 31 (0, 0))) ∧ Aside0 (w'.heap[gb1621]? = some (.cells #[.int .i64 (wrap64 (2 + t1618)), u1622001, (.slice none 0 0)] 31 (0, 0))) ∧ Aside0 (IsS144 w0 w' g s0_0 x1001_1 x1002_1) ∧ Aside0 (KeepBut w w' g none) ∧ Aside0 (Below w0.heap.size w0 w'))
 case atStart => exact ⟨(0), (t1619), (t1620), (([] : List (S93))), (.slice none 0 0), (by first | rfl | (simp; done) | (simp [*]; done)), H', ⟨Nat.le_refl _⟩, ⟨by first | exact Kd.R_nil _ _ _ _ _ | exact Kd.N_nil _ _ _ _ _ | exact Kd.V_nil _ _ _ _ _ | exact Kd.Q_nil _ _ _ _ _ | exact Kd.S_nil _ _ _ _ _⟩, ⟨by refine bz_ ?_; refine blk_far ?_ NB1617_1621.out _; refine bz_ ?_; refine blk_far ?_ NB1617_1621.out _; refine bz_ ?_; refine blk_far ?_ NB1617_1621.out _; refine bz_ ?_; exact BK1617.out⟩, ⟨by refine bz_ ?_; refine blk_put (cs := #[.int .i64 (wrap64 (2 + t1618)), .slice none 0 0, .slice none 0 0]) ?_ 2 _ rfl; refine bz_ ?_; refine blk_put (cs := #[.int .i64 (wrap64 (2 + t1618)), .slice none 0 0, .slice none 0 0]) ?_ 1 _ rfl; refine bz_ ?_; refine blk_put (cs := #[.int .i64 0, .slice none 0 0, .slice none 0 0]) ?_ 0 _ rfl; refine bz_ ?_; exact BK1621.out⟩, ⟨by repeat (first | (with_reducible first | exact HI0.out | apply IsS144.alloc | apply IsS144.drewN | apply IsS144.drew | apply IsS144.set_1 | apply IsS144.set_2 | refine IsS144.far ?_ NB0_1617.out _ | refine IsS144.far ?_ NB0_1621.out _) | exact HI0.out)⟩, ⟨by repeat (first | (with_reducible first | exact HK.out | apply KeepBut.set_ | apply keep_drewN | apply keep_drew | apply keep_alloc | refine keep_far ?_ GW1617.out _ | refine keep_far ?_ GW1621.out _) | exact HK.out)⟩, ⟨by repeat (first | (with_reducible first | exact HB.out | apply below_alloc | apply pw_below_drewN | apply below_drew1 | refine below_set ?_ (IsS144.ge HI0.out) | refine below_set ?_ GE1617.out | refine below_set ?_ GE1621.out) | exact HB.out)⟩⟩
 case round =>
  clear H'
  try clear c1
  try clear p2
  try clear c6
  try clear p6
  try clear c7
  try clear hcz8_0
  try clear hcz8_1
  try clear hcz8_2
  try clear hfz8_0
  try clear hfz8_1
  try clear hfz8_2
  obtain ⟨x4_1, x1001_1, x1002_1, x1622001_1, u1622001, rfl, HA, HK1, HO_1622001, BK1617, BK1621, HI0, HK, HB⟩ := hrel
  cases gk with
  | zero => exact absurd HA.out (by simp [spec_l03Net.l0])
  | succ k1 =>
   have H := HA.out
   clear HA
   simp only [spec_l03Net.l0] at H
   replace H := Option.bind_eq_some_iff.mp H
   obtain ⟨⟨t1622, t1623, t1624⟩, A90, H⟩ := H
   replace H : (if x4_1 < (wrap64 ((wrap64 (2 + t1618)) + t1622)) then ((spec_l01Below.f s0_0 t1623 t1624 (wrap64 (2 + t1618))).bind fun bt1625 => ((spec_l01Below.f s0_0 bt1625.2.1 bt1625.2.2 (wrap64 (2 + t1618))).bind fun bt1628 => (if (wrap64 (x4_1 + 1)) < (wrap64 (2 + t1618)) then (spec_l03Net.j1 k1 x4_1 (wrap64 (x4_1 + 1)) (wrap64 (x4_1 + 2)) s0_0 bt1628.2.1 bt1628.2.2 (wrap64 (2 + t1618)) x1622001_1) else (spec_l03Net.j1 k1 x4_1 (wrap64 (1 + bt1625.1)) (wrap64 (1 + bt1628.1)) s0_0 bt1628.2.1 bt1628.2.2 (wrap64 (2 + t1618)) x1622001_1)))) else (spec_l03Net.l1 k1 0 s0_0 t1623 t1624 (wrap64 (2 + t1618)) x1622001_1 ([] : List (S102)))) = some (r1, r2, r3, r4, r5) := H
   have A9 := Aside0.mk A90
   clear A90
   have HZ38 := Aside0.mk H
   clear H
   try go_wp2
   replace HO_1622001 := Aside0.mk (Kd.R_drew HO_1622001.out)
   replace BK1617 := Aside0.mk (blk_drew BK1617.out)
   replace BK1621 := Aside0.mk (blk_drew BK1621.out)
   replace HI0 := Aside0.mk (IsS144.drew HI0.out)
   replace HK := Aside0.mk (keep_drew HK.out)
   replace HB := Aside0.mk (below_drew1 HB.out)
   refine start_ (n := 7) (S := fun w' => w'.cell? ⟨gb1621, 0, none⟩ = some (.int .i64 (wrap64 (2 + t1618))) ∧ w'.cell? ⟨gb1621, 1, none⟩ = some (u1622001) ∧ w'.cell? ⟨gb1621, 2, none⟩ = some (.slice none 0 0)) (ds := []) (bL 7 0) (by kernel_rfl) rfl rfl ⟨(blk_cell BK1621.out 0).trans rfl, (blk_cell BK1621.out 1).trans rfl, (blk_cell BK1621.out 2).trans rfl⟩ (fun hHeld => ?_)
   generalize wr.drew = w14 at HO_1622001 BK1617 BK1621 HI0 HK HB hHeld ⊢
   refine pr_ 0 13 (bL 7 1) rfl rfl ?_
   refine pr_ 1 14 (bL 7 3) rfl rfl ?_
   refine pr_ 3 16 (bL 7 11) rfl rfl ?_
   refine take_ (i := 2) (N := some 15) (v := ?_) (a' := ?_) (bL 7 15) rfl rfl (by kernel_rfl) (fun _ _ _ h => h) (Or.inl ⟨by rfl, ?_⟩) hHeld ?_ ?_; rotate_left; (rintro w' ⟨s0, s1, s2⟩; go_simp; with_reducible rfl); rotate_left; (exact put_q)
   refine one_ (i := 4) (N := some 17) (bL 7 31) rfl rfl (by kernel_rfl) (by decide) (fun K hK => ?_)
   refine goes_ Try.func115 (by kernel_rfl) rfl #[.pointer (some ⟨g, 0, none⟩), .int .i64 3] (by rfl) rfl rfl mp_q ?_
   with_reducible refine (spec_l01Below.calls g s0_0 x1001_1 x1002_1 3 t1622 t1623 t1624 w0 _ ?side1 ?side2 A9.out).mono ?_
   (case side1 => repeat (first | (with_reducible first | exact HI0.out | apply IsS144.alloc | apply IsS144.drewN | apply IsS144.drew | apply IsS144.set_1 | apply IsS144.set_2 | refine IsS144.far ?_ NB0_1617.out _ | refine IsS144.far ?_ NB0_1621.out _) | exact HI0.out))
   (case side2 => repeat (first | (with_reducible first | exact HB.out | apply below_alloc | apply pw_below_drewN | apply below_drew1 | refine below_set ?_ (IsS144.ge HI0.out) | refine below_set ?_ GE1617.out | refine below_set ?_ GE1621.out) | exact HB.out))
   rintro e w15 ⟨rfl, hi, hb, hk⟩
   refine ⟨_, rfl, ?_⟩
   replace HO_1622001 := Aside0.mk (Kd.R_mono (Kd.R_keep (IsS144.apart (show IsS144 w0 _ g s0_0 x1001_1 x1002_1 from by repeat (first | (with_reducible first | exact HI0.out | apply IsS144.alloc | apply IsS144.drewN | apply IsS144.drew | apply IsS144.set_1 | apply IsS144.set_2 | refine IsS144.far ?_ NB0_1617.out _ | refine IsS144.far ?_ NB0_1621.out _) | exact HI0.out)) (kR_q HO_1622001) (by decide)) hk (fun _ h => h.2)) (fun _ h => h.1))
   replace BK1617 := Aside0.mk (KeepBut.blk hk (g' := gb1617) (o := .cells #[.int .i64 0, .slice none 0 0, .slice none 0 0] 31 (0, 0)) (bk_q BK1617) NB1617_0.out (by simp))
   replace BK1621 := Aside0.mk (KeepBut.blk hk (g' := gb1621) (o := .cells #[.int .i64 (wrap64 (2 + t1618)), u1622001, .slice none 0 0] 31 (0, 0)) (bk_q BK1621) NB1621_0.out (by simp))
   replace HK := Aside0.mk (KeepBut.trans (by repeat (first | (with_reducible first | exact HK.out | apply KeepBut.set_ | apply keep_drewN | apply keep_drew | apply keep_alloc | refine keep_far ?_ GW1617.out _ | refine keep_far ?_ GW1621.out _) | exact HK.out)) hk (.inl rfl))
   replace HB := Aside0.mk (hb)
   replace HI0 := Aside0.mk (hi)
   (try clear hb)
   (try clear hb2)
   (try clear hk)
   (try clear hi)
   refine hK.out _ _ ⟨(blk_cell BK1621.out 0).trans rfl, (blk_cell BK1621.out 1).trans rfl, (blk_cell BK1621.out 2).trans rfl⟩ (fun hHeld => ?_)
   clear hK K
   refine norm_ (a' := ?_) ?_ ?_; rotate_left; (show Act.put _ (some 17) _ = _; simp only [Act.put, List.setIfInBounds_toArray, List.set_cons_zero, List.set_cons_succ, i64_w, i32_w]; rfl)
   refine pr_ 5 18 (bL 7 63) rfl rfl ?_
   refine pr_ 6 19 (bL 7 127) rfl rfl ?_
   have H := HZ38.out
   clear HZ38
   by_cases c10 : x4_1 < (wrap64 ((wrap64 (2 + t1618)) + t1622))
   ·rw [if_pos c10] at H
    have c10b0 : decide (x4_1 < (wrap64 ((wrap64 (2 + t1618)) + t1622))) = true := decide_eq_true c10
    (first | rw [c10b0] | (simp only [i64_w, i32_w]; first | rw [c10b0]) | skip)
    clear c10
    replace H := Option.bind_eq_some_iff.mp H
    obtain ⟨⟨t1625, t1626, t1627⟩, A110, H⟩ := H
    replace H : ((spec_l01Below.f s0_0 t1626 t1627 (wrap64 (2 + t1618))).bind fun bt1628 => (if (wrap64 (x4_1 + 1)) < (wrap64 (2 + t1618)) then (spec_l03Net.j1 k1 x4_1 (wrap64 (x4_1 + 1)) (wrap64 (x4_1 + 2)) s0_0 bt1628.2.1 bt1628.2.2 (wrap64 (2 + t1618)) x1622001_1) else (spec_l03Net.j1 k1 x4_1 (wrap64 (1 + t1625)) (wrap64 (1 + bt1628.1)) s0_0 bt1628.2.1 bt1628.2.2 (wrap64 (2 + t1618)) x1622001_1))) = some (r1, r2, r3, r4, r5) := H
    have A11 := Aside0.mk A110
    clear A110
    replace H := Option.bind_eq_some_iff.mp H
    obtain ⟨⟨t1628, t1629, t1630⟩, A120, H⟩ := H
    replace H : (if (wrap64 (x4_1 + 1)) < (wrap64 (2 + t1618)) then (spec_l03Net.j1 k1 x4_1 (wrap64 (x4_1 + 1)) (wrap64 (x4_1 + 2)) s0_0 t1629 t1630 (wrap64 (2 + t1618)) x1622001_1) else (spec_l03Net.j1 k1 x4_1 (wrap64 (1 + t1625)) (wrap64 (1 + t1628)) s0_0 t1629 t1630 (wrap64 (2 + t1618)) x1622001_1)) = some (r1, r2, r3, r4, r5) := H
    have A12 := Aside0.mk A120
    clear A120
    have HC13 := Aside0.mk H
    clear H
    refine done_ (by kernel_rfl) ?_
    have hnb16 := NB1621_1617.out
    have hnc16 := NB1617_1621.out
    have hnb17 := NB1621_0.out
    have hnc17 := NB0_1621.out
    obtain ⟨hcz18_0, hcz18_1, hcz18_2⟩ := cz3_ BK1621
    obtain ⟨hfz18_0, hfz18_1, hfz18_2⟩ := fz3_ BK1621
    go_upto_if 36 with (first | ((with_reducible refine gate_callee (f := 115) rfl ?_); refine goesL_ (some 25) rfl rfl Try.func115 (by kernel_rfl) rfl #[.pointer (some ⟨g, 0, none⟩), .int .i64 (wrap64 (2 + t1618))] rfl mp_q ?_; (with_reducible refine (spec_l01Below.calls g s0_0 t1623 t1624 (wrap64 (2 + t1618)) t1625 t1626 t1627 w0 _ ?side1 ?side2 A11.out).mono ?_); (case side1 => repeat (first | (with_reducible first | exact HI0.out | apply IsS144.alloc | apply IsS144.drewN | apply IsS144.drew | apply IsS144.set_1 | apply IsS144.set_2 | refine IsS144.far ?_ NB0_1617.out _ | refine IsS144.far ?_ NB0_1621.out _) | exact HI0.out)); (case side2 => repeat (first | (with_reducible first | exact HB.out | apply below_alloc | apply pw_below_drewN | apply below_drew1 | refine below_set ?_ (IsS144.ge HI0.out) | refine below_set ?_ GE1617.out | refine below_set ?_ GE1621.out) | exact HB.out)); rintro e w19 ⟨rfl, hi, hb, hk⟩; refine ⟨_, rfl, ?_⟩; replace HO_1622001 := Aside0.mk (Kd.R_mono (Kd.R_keep (IsS144.apart (show IsS144 w0 _ g s0_0 t1623 t1624 from by repeat (first | (with_reducible first | exact HI0.out | apply IsS144.alloc | apply IsS144.drewN | apply IsS144.drew | apply IsS144.set_1 | apply IsS144.set_2 | refine IsS144.far ?_ NB0_1617.out _ | refine IsS144.far ?_ NB0_1621.out _) | exact HI0.out)) (kR_q HO_1622001) (by decide)) hk (fun _ h => h.2)) (fun _ h => h.1)); replace BK1617 := Aside0.mk (KeepBut.blk hk (g' := gb1617) (o := .cells #[.int .i64 0, .slice none 0 0, .slice none 0 0] 31 (0, 0)) (bk_q BK1617) NB1617_0.out (by simp)); replace BK1621 := Aside0.mk (KeepBut.blk hk (g' := gb1621) (o := .cells #[.int .i64 (wrap64 (2 + t1618)), u1622001, .slice none 0 0] 31 (0, 0)) (bk_q BK1621) NB1621_0.out (by simp)); replace HK := Aside0.mk (KeepBut.trans (by repeat (first | (with_reducible first | exact HK.out | apply KeepBut.set_ | apply keep_drewN | apply keep_drew | apply keep_alloc | refine keep_far ?_ GW1617.out _ | refine keep_far ?_ GW1621.out _) | exact HK.out)) hk (.inl rfl)); replace HB := Aside0.mk (hb); replace HI0 := Aside0.mk (hi); (try clear hb); (try clear hb2); (try clear hk); (try clear hi); have hcz20_0 : w19.cell? ⟨gb1621, 0, none⟩ = some (.int .i64 (wrap64 (2 + t1618))) := (blk_cell BK1621.out 0).trans rfl; have hcz20_1 : w19.cell? ⟨gb1621, 1, none⟩ = some (u1622001) := (blk_cell BK1621.out 1).trans rfl; have hcz20_2 : w19.cell? ⟨gb1621, 2, none⟩ = some (.slice none 0 0) := (blk_cell BK1621.out 2).trans rfl; have hfz20_0 := blk_frozen BK1621.out 0; have hfz20_1 := blk_frozen BK1621.out 1; have hfz20_2 := blk_frozen BK1621.out 2) | ((with_reducible refine gate_callee (f := 115) rfl ?_); refine goesL_ (some 30) rfl rfl Try.func115 (by kernel_rfl) rfl #[.pointer (some ⟨g, 0, none⟩), .int .i64 (wrap64 (2 + t1618))] rfl mp_q ?_; (with_reducible refine (spec_l01Below.calls g s0_0 t1626 t1627 (wrap64 (2 + t1618)) t1628 t1629 t1630 w0 _ ?side1 ?side2 A12.out).mono ?_); (case side1 => repeat (first | (with_reducible first | exact HI0.out | apply IsS144.alloc | apply IsS144.drewN | apply IsS144.drew | apply IsS144.set_1 | apply IsS144.set_2 | refine IsS144.far ?_ NB0_1617.out _ | refine IsS144.far ?_ NB0_1621.out _) | exact HI0.out)); (case side2 => repeat (first | (with_reducible first | exact HB.out | apply below_alloc | apply pw_below_drewN | apply below_drew1 | refine below_set ?_ (IsS144.ge HI0.out) | refine below_set ?_ GE1617.out | refine below_set ?_ GE1621.out) | exact HB.out)); rintro e w21 ⟨rfl, hi, hb, hk⟩; refine ⟨_, rfl, ?_⟩; replace HO_1622001 := Aside0.mk (Kd.R_mono (Kd.R_keep (IsS144.apart (show IsS144 w0 _ g s0_0 t1626 t1627 from by repeat (first | (with_reducible first | exact HI0.out | apply IsS144.alloc | apply IsS144.drewN | apply IsS144.drew | apply IsS144.set_1 | apply IsS144.set_2 | refine IsS144.far ?_ NB0_1617.out _ | refine IsS144.far ?_ NB0_1621.out _) | exact HI0.out)) (kR_q HO_1622001) (by decide)) hk (fun _ h => h.2)) (fun _ h => h.1)); replace BK1617 := Aside0.mk (KeepBut.blk hk (g' := gb1617) (o := .cells #[.int .i64 0, .slice none 0 0, .slice none 0 0] 31 (0, 0)) (bk_q BK1617) NB1617_0.out (by simp)); replace BK1621 := Aside0.mk (KeepBut.blk hk (g' := gb1621) (o := .cells #[.int .i64 (wrap64 (2 + t1618)), u1622001, .slice none 0 0] 31 (0, 0)) (bk_q BK1621) NB1621_0.out (by simp)); replace HK := Aside0.mk (KeepBut.trans (by repeat (first | (with_reducible first | exact HK.out | apply KeepBut.set_ | apply keep_drewN | apply keep_drew | apply keep_alloc | refine keep_far ?_ GW1617.out _ | refine keep_far ?_ GW1621.out _) | exact HK.out)) hk (.inl rfl)); replace HB := Aside0.mk (hb); replace HI0 := Aside0.mk (hi); (try clear hb); (try clear hb2); (try clear hk); (try clear hi); have hcz22_0 : w21.cell? ⟨gb1621, 0, none⟩ = some (.int .i64 (wrap64 (2 + t1618))) := (blk_cell BK1621.out 0).trans rfl; have hcz22_1 : w21.cell? ⟨gb1621, 1, none⟩ = some (u1622001) := (blk_cell BK1621.out 1).trans rfl; have hcz22_2 : w21.cell? ⟨gb1621, 2, none⟩ = some (.slice none 0 0) := (blk_cell BK1621.out 2).trans rfl; have hfz22_0 := blk_frozen BK1621.out 0; have hfz22_1 := blk_frozen BK1621.out 1; have hfz22_2 := blk_frozen BK1621.out 2))
    (try simp only [Act.put, List.setIfInBounds_toArray, List.set_cons_zero, List.set_cons_succ])
    go_cut [5, 6] (fun v5 v6 wc => ∃ (kq : Nat) (x5_12 : Int) (x6_12 : Int), v5 = .int .i64 x5_12 ∧ v6 = .int .i64 x6_12 ∧ Aside0 (spec_l03Net.j1 kq x4_1 x5_12 x6_12 s0_0 t1629 t1630 (wrap64 (2 + t1618)) x1622001_1 = some (r1, r2, r3, r4, r5)) ∧ Aside0 (kq ≤ k1) ∧ Aside0 (Kd.R k93 93 wc w.heap.size (fun _ => True) u1622001 x1622001_1) ∧ Aside0 (wc.heap[gb1617]? = some (.cells #[.int .i64 0, (.slice none 0 0), (.slice none 0 0)] 31 (0, 0))) ∧ Aside0 (wc.heap[gb1621]? = some (.cells #[.int .i64 (wrap64 (2 + t1618)), u1622001, (.slice none 0 0)] 31 (0, 0))) ∧ Aside0 (IsS144 w0 wc g s0_0 t1629 t1630) ∧ Aside0 (KeepBut w wc g none) ∧ Aside0 (Below w0.heap.size w0 wc))
    case first =>
     have H := HC13.out
     clear HC13
     by_cases c23 : (wrap64 (x4_1 + 1)) < (wrap64 (2 + t1618))
     ·rw [if_pos c23] at H
      have c23b0 : decide ((wrap64 (x4_1 + 1)) < (wrap64 (2 + t1618))) = true := decide_eq_true c23
      clear c23
      (first | rw [c23b0] | rw [c23b1] | (simp only [i64_w, i32_w]; first | rw [c23b0] | rw [c23b1]) | skip)
      have H' := Aside0.mk H
      clear H
      go_wp2
      go_meet
      case rel => exact ⟨_, (wrap64 (x4_1 + 1)), (wrap64 (x4_1 + 2)), (by first | rfl | (simp; done) | (simp [*]; done)), (by first | rfl | (simp; done) | (simp [*]; done)), H', ⟨by have := HK1.out; first | omega | exact Nat.le_refl _⟩, ⟨by (with_reducible repeat (first | apply Kd.R_alloc | apply Kd.R_drewN | apply Kd.R_drew)); exact HO_1622001.out⟩, ⟨by refine bz_ ?_; exact BK1617.out⟩, ⟨by refine bz_ ?_; exact BK1621.out⟩, ⟨by repeat (first | (with_reducible first | exact HI0.out | apply IsS144.alloc | apply IsS144.drewN | apply IsS144.drew | apply IsS144.set_1 | apply IsS144.set_2 | refine IsS144.far ?_ NB0_1617.out _ | refine IsS144.far ?_ NB0_1621.out _) | exact HI0.out)⟩, ⟨by repeat (first | (with_reducible first | exact HK.out | apply KeepBut.set_ | apply keep_drewN | apply keep_drew | apply keep_alloc | refine keep_far ?_ GW1617.out _ | refine keep_far ?_ GW1621.out _) | exact HK.out)⟩, ⟨by repeat (first | (with_reducible first | exact HB.out | apply below_alloc | apply pw_below_drewN | apply below_drew1 | refine below_set ?_ (IsS144.ge HI0.out) | refine below_set ?_ GE1617.out | refine below_set ?_ GE1621.out) | exact HB.out)⟩⟩
     ·rw [if_neg c23] at H
      have c23b0 : decide ((wrap64 (x4_1 + 1)) < (wrap64 (2 + t1618))) = false := decide_eq_false c23
      clear c23
      (first | rw [c23b0] | rw [c23b1] | (simp only [i64_w, i32_w]; first | rw [c23b0] | rw [c23b1]) | skip)
      have H' := Aside0.mk H
      clear H
      go_wp2
      go_meet
      case rel => exact ⟨_, (wrap64 (1 + t1625)), (wrap64 (1 + t1628)), (by first | rfl | (simp; done) | (simp [*]; done)), (by first | rfl | (simp; done) | (simp [*]; done)), H', ⟨by have := HK1.out; first | omega | exact Nat.le_refl _⟩, ⟨by (with_reducible repeat (first | apply Kd.R_alloc | apply Kd.R_drewN | apply Kd.R_drew)); exact HO_1622001.out⟩, ⟨by refine bz_ ?_; exact BK1617.out⟩, ⟨by refine bz_ ?_; exact BK1621.out⟩, ⟨by repeat (first | (with_reducible first | exact HI0.out | apply IsS144.alloc | apply IsS144.drewN | apply IsS144.drew | apply IsS144.set_1 | apply IsS144.set_2 | refine IsS144.far ?_ NB0_1617.out _ | refine IsS144.far ?_ NB0_1621.out _) | exact HI0.out)⟩, ⟨by repeat (first | (with_reducible first | exact HK.out | apply KeepBut.set_ | apply keep_drewN | apply keep_drew | apply keep_alloc | refine keep_far ?_ GW1617.out _ | refine keep_far ?_ GW1621.out _) | exact HK.out)⟩, ⟨by repeat (first | (with_reducible first | exact HB.out | apply below_alloc | apply pw_below_drewN | apply below_drew1 | refine below_set ?_ (IsS144.ge HI0.out) | refine below_set ?_ GE1617.out | refine below_set ?_ GE1621.out) | exact HB.out)⟩⟩
    case rest =>
     clear HC13
     try clear c1
     try clear c2
     try clear p2
     try clear c6
     try clear p6
     try clear c7
     try clear c10
     try clear c10b0
     try clear c11
     try clear c12
     try clear c16
     try clear c17
     try clear c23
     try clear c23b0
     try clear c23b1
     try clear hcz18_0
     try clear hcz18_1
     try clear hcz18_2
     try clear hcz20_0
     try clear hcz20_1
     try clear hcz20_2
     try clear hcz22_0
     try clear hcz22_1
     try clear hcz22_2
     try clear hcz8_0
     try clear hcz8_1
     try clear hcz8_2
     try clear hfz18_0
     try clear hfz18_1
     try clear hfz18_2
     try clear hfz20_0
     try clear hfz20_1
     try clear hfz20_2
     try clear hfz22_0
     try clear hfz22_1
     try clear hfz22_2
     try clear hfz8_0
     try clear hfz8_1
     try clear hfz8_2
     try clear p2
     try clear p6
     obtain ⟨kq, x5_12, x6_12, rfl, rfl, HA, HJ12, HO_1622001, BK1617, BK1621, HI0, HK, HB⟩ := hcut
     cases kq with
     | zero => exact absurd HA.out (by simp [spec_l03Net.j1])
     | succ kj12 =>
      have H := HA.out
      clear HA
      simp only [spec_l03Net.j1] at H
      have HC24 := Aside0.mk H
      clear H
      go_upto_if 43 with (fail)
      go_cut [6] (fun v6 wc => ∃ (kq : Nat) (x6_23 : Int), v6 = .int .i64 x6_23 ∧ Aside0 (spec_l03Net.j2 kq x4_1 x5_12 x6_23 s0_0 t1629 t1630 (wrap64 (2 + t1618)) x1622001_1 = some (r1, r2, r3, r4, r5)) ∧ Aside0 (kq ≤ kj12) ∧ Aside0 (Kd.R k93 93 wc w.heap.size (fun _ => True) u1622001 x1622001_1) ∧ Aside0 (wc.heap[gb1617]? = some (.cells #[.int .i64 0, (.slice none 0 0), (.slice none 0 0)] 31 (0, 0))) ∧ Aside0 (wc.heap[gb1621]? = some (.cells #[.int .i64 (wrap64 (2 + t1618)), u1622001, (.slice none 0 0)] 31 (0, 0))) ∧ Aside0 (IsS144 w0 wc g s0_0 t1629 t1630) ∧ Aside0 (KeepBut w wc g none) ∧ Aside0 (Below w0.heap.size w0 wc))
      case first =>
       have H := HC24.out
       clear HC24
       by_cases c25 : x5_12 = x6_12
       ·rw [if_pos c25] at H
        have c25b0 : (x5_12 == x6_12) = true := beq_iff_eq.mpr c25
        have c25b1 : (x5_12 != x6_12) = false := bne_eq_false_iff_eq.mpr c25
        clear c25
        (first | rw [c25b0] | rw [c25b1] | (simp only [i64_w, i32_w]; first | rw [c25b0] | rw [c25b1]) | skip)
        by_cases c26 : (wrap64 (2 + t1618)) = 0
        ·rw [if_pos c26] at H
         exact absurd H (by simp)
        ·rw [if_neg c26] at H
         have c26b0 : ((wrap64 (2 + t1618)) == 0) = false := beq_eq_false_iff_ne.mpr c26
         have c26b1 : ((wrap64 (2 + t1618)) != 0) = true := bne_iff_ne.mpr c26
         have H' := Aside0.mk H
         clear H
         have hnb27 := NB1621_1617.out
         have hnc27 := NB1617_1621.out
         have hnb28 := NB1621_0.out
         have hnc28 := NB0_1621.out
         obtain ⟨hcz29_0, hcz29_1, hcz29_2⟩ := cz3_ BK1621
         obtain ⟨hfz29_0, hfz29_1, hfz29_2⟩ := fz3_ BK1621
         go_wp2
         go_meet
         case rel => exact ⟨_, (wrap64 ((Int.tmod x5_12 (wrap64 (2 + t1618))) + 1)), (by first | rfl | (simp; done) | (simp [*]; done)), H', ⟨by have := HK1.out; have := HJ12.out; first | omega | exact Nat.le_refl _⟩, ⟨by (with_reducible repeat (first | apply Kd.R_alloc | apply Kd.R_drewN | apply Kd.R_drew)); exact HO_1622001.out⟩, ⟨by refine bz_ ?_; exact BK1617.out⟩, ⟨by refine bz_ ?_; exact BK1621.out⟩, ⟨by repeat (first | (with_reducible first | exact HI0.out | apply IsS144.alloc | apply IsS144.drewN | apply IsS144.drew | apply IsS144.set_1 | apply IsS144.set_2 | refine IsS144.far ?_ NB0_1617.out _ | refine IsS144.far ?_ NB0_1621.out _) | exact HI0.out)⟩, ⟨by repeat (first | (with_reducible first | exact HK.out | apply KeepBut.set_ | apply keep_drewN | apply keep_drew | apply keep_alloc | refine keep_far ?_ GW1617.out _ | refine keep_far ?_ GW1621.out _) | exact HK.out)⟩, ⟨by repeat (first | (with_reducible first | exact HB.out | apply below_alloc | apply pw_below_drewN | apply below_drew1 | refine below_set ?_ (IsS144.ge HI0.out) | refine below_set ?_ GE1617.out | refine below_set ?_ GE1621.out) | exact HB.out)⟩⟩
       ·rw [if_neg c25] at H
        have c25b0 : (x5_12 == x6_12) = false := beq_eq_false_iff_ne.mpr c25
        have c25b1 : (x5_12 != x6_12) = true := bne_iff_ne.mpr c25
        (first | rw [c25b0] | rw [c25b1] | (simp only [i64_w, i32_w]; first | rw [c25b0] | rw [c25b1]) | skip)
        have H' := Aside0.mk H
        clear H
        go_wp2
        go_meet
        case rel => exact ⟨_, (x6_12), (by first | rfl | (simp; done) | (simp [*]; done)), H', ⟨by have := HK1.out; have := HJ12.out; first | omega | exact Nat.le_refl _⟩, ⟨by (with_reducible repeat (first | apply Kd.R_alloc | apply Kd.R_drewN | apply Kd.R_drew)); exact HO_1622001.out⟩, ⟨by refine bz_ ?_; exact BK1617.out⟩, ⟨by refine bz_ ?_; exact BK1621.out⟩, ⟨by repeat (first | (with_reducible first | exact HI0.out | apply IsS144.alloc | apply IsS144.drewN | apply IsS144.drew | apply IsS144.set_1 | apply IsS144.set_2 | refine IsS144.far ?_ NB0_1617.out _ | refine IsS144.far ?_ NB0_1621.out _) | exact HI0.out)⟩, ⟨by repeat (first | (with_reducible first | exact HK.out | apply KeepBut.set_ | apply keep_drewN | apply keep_drew | apply keep_alloc | refine keep_far ?_ GW1617.out _ | refine keep_far ?_ GW1621.out _) | exact HK.out)⟩, ⟨by repeat (first | (with_reducible first | exact HB.out | apply below_alloc | apply pw_below_drewN | apply below_drew1 | refine below_set ?_ (IsS144.ge HI0.out) | refine below_set ?_ GE1617.out | refine below_set ?_ GE1621.out) | exact HB.out)⟩⟩
      case rest =>
       clear HC24
       try clear c1
       try clear c2
       try clear p2
       try clear c6
       try clear p6
       try clear c7
       try clear c10
       try clear c10b0
       try clear c11
       try clear c12
       try clear c16
       try clear c17
       try clear c23
       try clear c23b0
       try clear c23b1
       try clear c25
       try clear c25b0
       try clear c25b1
       try clear c26
       try clear c26b0
       try clear c26b1
       try clear c27
       try clear c28
       try clear hcz18_0
       try clear hcz18_1
       try clear hcz18_2
       try clear hcz20_0
       try clear hcz20_1
       try clear hcz20_2
       try clear hcz22_0
       try clear hcz22_1
       try clear hcz22_2
       try clear hcz29_0
       try clear hcz29_1
       try clear hcz29_2
       try clear hcz8_0
       try clear hcz8_1
       try clear hcz8_2
       try clear hfz18_0
       try clear hfz18_1
       try clear hfz18_2
       try clear hfz20_0
       try clear hfz20_1
       try clear hfz20_2
       try clear hfz22_0
       try clear hfz22_1
       try clear hfz22_2
       try clear hfz29_0
       try clear hfz29_1
       try clear hfz29_2
       try clear hfz8_0
       try clear hfz8_1
       try clear hfz8_2
       try clear p2
       try clear p6
       obtain ⟨kq, x6_23, rfl, HA, HJ23, HO_1622001, BK1617, BK1621, HI0, HK, HB⟩ := hcut
       cases kq with
       | zero => exact absurd HA.out (by simp [spec_l03Net.j2])
       | succ kj23 =>
        have H := HA.out
        clear HA
        simp only [spec_l03Net.j2] at H
        have HC30 := Aside0.mk H
        clear H
        go_upto_if 51 with (fail)
        go_cut [5, 6] (fun v5 v6 wc => ∃ (kq : Nat) (x5_29 : Int) (x6_29 : Int), v5 = .int .i64 x5_29 ∧ v6 = .int .i64 x6_29 ∧ Aside0 (spec_l03Net.j3 kq x4_1 x5_29 x6_29 s0_0 t1629 t1630 (wrap64 (2 + t1618)) x1622001_1 = some (r1, r2, r3, r4, r5)) ∧ Aside0 (kq ≤ kj23) ∧ Aside0 (Kd.R k93 93 wc w.heap.size (fun _ => True) u1622001 x1622001_1) ∧ Aside0 (wc.heap[gb1617]? = some (.cells #[.int .i64 0, (.slice none 0 0), (.slice none 0 0)] 31 (0, 0))) ∧ Aside0 (wc.heap[gb1621]? = some (.cells #[.int .i64 (wrap64 (2 + t1618)), u1622001, (.slice none 0 0)] 31 (0, 0))) ∧ Aside0 (IsS144 w0 wc g s0_0 t1629 t1630) ∧ Aside0 (KeepBut w wc g none) ∧ Aside0 (Below w0.heap.size w0 wc))
        case first =>
         have H := HC30.out
         clear HC30
         by_cases c31 : x5_12 > x6_23
         ·rw [if_pos c31] at H
          have c31b0 : decide (x6_23 < x5_12) = true := decide_eq_true c31
          clear c31
          (first | rw [c31b0] | rw [c31b1] | (simp only [i64_w, i32_w]; first | rw [c31b0] | rw [c31b1]) | skip)
          have H' := Aside0.mk H
          clear H
          go_wp2
          go_meet
          case rel => exact ⟨_, (x6_23), (x5_12), (by first | rfl | (simp; done) | (simp [*]; done)), (by first | rfl | (simp; done) | (simp [*]; done)), H', ⟨by have := HK1.out; have := HJ12.out; have := HJ23.out; first | omega | exact Nat.le_refl _⟩, ⟨by (with_reducible repeat (first | apply Kd.R_alloc | apply Kd.R_drewN | apply Kd.R_drew)); exact HO_1622001.out⟩, ⟨by refine bz_ ?_; exact BK1617.out⟩, ⟨by refine bz_ ?_; exact BK1621.out⟩, ⟨by repeat (first | (with_reducible first | exact HI0.out | apply IsS144.alloc | apply IsS144.drewN | apply IsS144.drew | apply IsS144.set_1 | apply IsS144.set_2 | refine IsS144.far ?_ NB0_1617.out _ | refine IsS144.far ?_ NB0_1621.out _) | exact HI0.out)⟩, ⟨by repeat (first | (with_reducible first | exact HK.out | apply KeepBut.set_ | apply keep_drewN | apply keep_drew | apply keep_alloc | refine keep_far ?_ GW1617.out _ | refine keep_far ?_ GW1621.out _) | exact HK.out)⟩, ⟨by repeat (first | (with_reducible first | exact HB.out | apply below_alloc | apply pw_below_drewN | apply below_drew1 | refine below_set ?_ (IsS144.ge HI0.out) | refine below_set ?_ GE1617.out | refine below_set ?_ GE1621.out) | exact HB.out)⟩⟩
         ·rw [if_neg c31] at H
          have c31b0 : decide (x6_23 < x5_12) = false := decide_eq_false c31
          clear c31
          (first | rw [c31b0] | rw [c31b1] | (simp only [i64_w, i32_w]; first | rw [c31b0] | rw [c31b1]) | skip)
          have H' := Aside0.mk H
          clear H
          go_wp2
          go_meet
          case rel => exact ⟨_, (x5_12), (x6_23), (by first | rfl | (simp; done) | (simp [*]; done)), (by first | rfl | (simp; done) | (simp [*]; done)), H', ⟨by have := HK1.out; have := HJ12.out; have := HJ23.out; first | omega | exact Nat.le_refl _⟩, ⟨by (with_reducible repeat (first | apply Kd.R_alloc | apply Kd.R_drewN | apply Kd.R_drew)); exact HO_1622001.out⟩, ⟨by refine bz_ ?_; exact BK1617.out⟩, ⟨by refine bz_ ?_; exact BK1621.out⟩, ⟨by repeat (first | (with_reducible first | exact HI0.out | apply IsS144.alloc | apply IsS144.drewN | apply IsS144.drew | apply IsS144.set_1 | apply IsS144.set_2 | refine IsS144.far ?_ NB0_1617.out _ | refine IsS144.far ?_ NB0_1621.out _) | exact HI0.out)⟩, ⟨by repeat (first | (with_reducible first | exact HK.out | apply KeepBut.set_ | apply keep_drewN | apply keep_drew | apply keep_alloc | refine keep_far ?_ GW1617.out _ | refine keep_far ?_ GW1621.out _) | exact HK.out)⟩, ⟨by repeat (first | (with_reducible first | exact HB.out | apply below_alloc | apply pw_below_drewN | apply below_drew1 | refine below_set ?_ (IsS144.ge HI0.out) | refine below_set ?_ GE1617.out | refine below_set ?_ GE1621.out) | exact HB.out)⟩⟩
        case rest =>
         clear HC30
         try clear c1
         try clear c2
         try clear p2
         try clear c3
         try clear c6
         try clear p6
         try clear c7
         try clear c10
         try clear c10b0
         try clear c11
         try clear c12
         try clear c16
         try clear c17
         try clear c23
         try clear c23b0
         try clear c23b1
         try clear c25
         try clear c25b0
         try clear c25b1
         try clear c26
         try clear c26b0
         try clear c26b1
         try clear c27
         try clear c28
         try clear c31
         try clear c31b0
         try clear c31b1
         try clear hcz18_0
         try clear hcz18_1
         try clear hcz18_2
         try clear hcz20_0
         try clear hcz20_1
         try clear hcz20_2
         try clear hcz22_0
         try clear hcz22_1
         try clear hcz22_2
         try clear hcz29_0
         try clear hcz29_1
         try clear hcz29_2
         try clear hcz8_0
         try clear hcz8_1
         try clear hcz8_2
         try clear hfz18_0
         try clear hfz18_1
         try clear hfz18_2
         try clear hfz20_0
         try clear hfz20_1
         try clear hfz20_2
         try clear hfz22_0
         try clear hfz22_1
         try clear hfz22_2
         try clear hfz29_0
         try clear hfz29_1
         try clear hfz29_2
         try clear hfz8_0
         try clear hfz8_1
         try clear hfz8_2
         try clear p2
         try clear p6
         obtain ⟨kq, x5_29, x6_29, rfl, rfl, HA, HJ29, HO_1622001, BK1617, BK1621, HI0, HK, HB⟩ := hcut
         cases kq with
         | zero => exact absurd HA.out (by simp [spec_l03Net.j3])
         | succ kj29 =>
          have H := HA.out
          clear HA
          simp only [spec_l03Net.j3] at H
          replace H := Option.bind_eq_some_iff.mp H
          obtain ⟨⟨t1631, t1632, t1633⟩, A320, H⟩ := H
          replace H : ((spec_l01PickInt.f s0_0 t1632 t1633 (([0, 0, 1, 2] : List Int))).bind fun bt1637 => (if (x1622001_1.length : Int) < 12 then ((spec_l03Put.f kj29 x1622001_1 x5_29 x6_29 (wrap64 (1 + t1631)) bt1637.1).bind fun t1641 => (spec_l03Net.l0 kj29 (wrap64 (x4_1 + 1)) s0_0 bt1637.2.1 bt1637.2.2 (wrap64 (2 + t1618)) t1641)) else (spec_l03Net.l0 kj29 (wrap64 (x4_1 + 1)) s0_0 bt1637.2.1 bt1637.2.2 (wrap64 (2 + t1618)) x1622001_1))) = some (r1, r2, r3, r4, r5) := H
          have A32 := Aside0.mk A320
          clear A320
          obtain ⟨y1634, hy1634⟩ : ∃ y_ : List Int, y_ = (([0, 0, 1, 2] : List Int)) := ⟨_, rfl⟩
          replace H : ((spec_l01PickInt.f s0_0 t1632 t1633 y1634).bind fun bt1637 => (if (x1622001_1.length : Int) < 12 then ((spec_l03Put.f kj29 x1622001_1 x5_29 x6_29 (wrap64 (1 + t1631)) bt1637.1).bind fun t1641 => (spec_l03Net.l0 kj29 (wrap64 (x4_1 + 1)) s0_0 bt1637.2.1 bt1637.2.2 (wrap64 (2 + t1618)) t1641)) else (spec_l03Net.l0 kj29 (wrap64 (x4_1 + 1)) s0_0 bt1637.2.1 bt1637.2.2 (wrap64 (2 + t1618)) x1622001_1))) = some (r1, r2, r3, r4, r5) := by first | (rw [hy1634]; with_reducible exact H) | (have H2_ := (Option.bind_some _ _).symm.trans H; rw [hy1634]; with_reducible exact H2_) | (have H2_ := (Option.bind_some _ _).symm.trans H; with_reducible exact H2_) | with_reducible exact H | (rw [hy1634]; exact H) | exact H
          have Ny1634 := Aside0.mk hy1634
          clear hy1634
          replace H := Option.bind_eq_some_iff.mp H
          obtain ⟨⟨t1637, t1638, t1639⟩, A330, H⟩ := H
          replace H : (if (x1622001_1.length : Int) < 12 then ((spec_l03Put.f kj29 x1622001_1 x5_29 x6_29 (wrap64 (1 + t1631)) t1637).bind fun t1641 => (spec_l03Net.l0 kj29 (wrap64 (x4_1 + 1)) s0_0 t1638 t1639 (wrap64 (2 + t1618)) t1641)) else (spec_l03Net.l0 kj29 (wrap64 (x4_1 + 1)) s0_0 t1638 t1639 (wrap64 (2 + t1618)) x1622001_1)) = some (r1, r2, r3, r4, r5) := H
          have A33 := Aside0.mk A330
          clear A330
          have HC34 := Aside0.mk H
          clear H
          go_upto_if 66 with (first | ((with_reducible refine gate_callee (f := 115) rfl ?_); refine goesL_ (some 57) rfl rfl Try.func115 (by kernel_rfl) rfl #[.pointer (some ⟨g, 0, none⟩), .int .i64 4] rfl mp_q ?_; (with_reducible refine (spec_l01Below.calls g s0_0 t1629 t1630 4 t1631 t1632 t1633 w0 _ ?side1 ?side2 A32.out).mono ?_); (case side1 => repeat (first | (with_reducible first | exact HI0.out | apply IsS144.alloc | apply IsS144.drewN | apply IsS144.drew | apply IsS144.set_1 | apply IsS144.set_2 | refine IsS144.far ?_ NB0_1617.out _ | refine IsS144.far ?_ NB0_1621.out _) | exact HI0.out)); (case side2 => repeat (first | (with_reducible first | exact HB.out | apply below_alloc | apply pw_below_drewN | apply below_drew1 | refine below_set ?_ (IsS144.ge HI0.out) | refine below_set ?_ GE1617.out | refine below_set ?_ GE1621.out) | exact HB.out)); rintro e w35 ⟨rfl, hi, hb, hk⟩; refine ⟨_, rfl, ?_⟩; replace HO_1622001 := Aside0.mk (Kd.R_mono (Kd.R_keep (IsS144.apart (show IsS144 w0 _ g s0_0 t1629 t1630 from by repeat (first | (with_reducible first | exact HI0.out | apply IsS144.alloc | apply IsS144.drewN | apply IsS144.drew | apply IsS144.set_1 | apply IsS144.set_2 | refine IsS144.far ?_ NB0_1617.out _ | refine IsS144.far ?_ NB0_1621.out _) | exact HI0.out)) (kR_q HO_1622001) (by decide)) hk (fun _ h => h.2)) (fun _ h => h.1)); replace BK1617 := Aside0.mk (KeepBut.blk hk (g' := gb1617) (o := .cells #[.int .i64 0, .slice none 0 0, .slice none 0 0] 31 (0, 0)) (bk_q BK1617) NB1617_0.out (by simp)); replace BK1621 := Aside0.mk (KeepBut.blk hk (g' := gb1621) (o := .cells #[.int .i64 (wrap64 (2 + t1618)), u1622001, .slice none 0 0] 31 (0, 0)) (bk_q BK1621) NB1621_0.out (by simp)); replace HK := Aside0.mk (KeepBut.trans (by repeat (first | (with_reducible first | exact HK.out | apply KeepBut.set_ | apply keep_drewN | apply keep_drew | apply keep_alloc | refine keep_far ?_ GW1617.out _ | refine keep_far ?_ GW1621.out _) | exact HK.out)) hk (.inl rfl)); replace HB := Aside0.mk (hb); replace HI0 := Aside0.mk (hi); (try clear hb); (try clear hb2); (try clear hk); (try clear hi)) | ((with_reducible refine gate_dst (N := 60) rfl ?_); refine Kd.R_lit (Kd.int .i64) _ 3 ?hg (N := 60) ?hd (xs := ([0, 0, 1, 2] : List Int)) (inner := [.int .i64 0, .int .i64 0, .int .i64 1, .int .i64 2]) (ok := fun _ => True) (okp := fun _ => True) ?hr ?hp (fun _ hk => hk) trivial (Below.refl _ _) (Nat.le_refl _) (by simp) ?_; (case hd => rfl); (case hg => rfl); (case hr => first | (go_simp; done) | (go_simp; rfl)); (case hp => exact (Reps.one (show Kd.M (Kd.int .i64) _ _ _ 0 [.int .i64 0] from rfl) (Reps.one (show Kd.M (Kd.int .i64) _ _ _ 0 [.int .i64 0] from rfl) (Reps.one (show Kd.M (Kd.int .i64) _ _ _ 1 [.int .i64 1] from rfl) (Reps.one (show Kd.M (Kd.int .i64) _ _ _ 2 [.int .i64 2] from rfl) (Reps.none _ _)))))); intro v1635 w36 ho37 hb hg_ hnew_; clear hg_ hnew_; (first | rw [← Ny1634.out] at ho37 | (simp only [Int.reduceToNat] at ho37; rw [← Ny1634.out] at ho37)); replace HO_1622001 := Aside0.mk (Kd.R_below (kR_q HO_1622001) hb); have HO1636 := Aside0.mk (Kd.R_lower ho37 (keep_size (w := w) (g := g) (row := none) (by repeat (first | (with_reducible first | exact HK.out | apply KeepBut.set_ | apply keep_drewN | apply keep_drew | apply keep_alloc | refine keep_far ?_ GW1617.out _ | refine keep_far ?_ GW1621.out _) | exact HK.out)))); replace BK1617 := Aside0.mk (blk_below (g := gb1617) (bk_q BK1617) hb); replace BK1621 := Aside0.mk (blk_below (g := gb1621) (bk_q BK1621) hb); replace HK := Aside0.mk (KeepBut.trans (by repeat (first | (with_reducible first | exact HK.out | apply KeepBut.set_ | apply keep_drewN | apply keep_drew | apply keep_alloc | refine keep_far ?_ GW1617.out _ | refine keep_far ?_ GW1621.out _) | exact HK.out)) (KeepBut.of_below hb g none) (.inl rfl)); replace HB := Aside0.mk (below_step (by repeat (first | (with_reducible first | exact HB.out | apply below_alloc | apply pw_below_drewN | apply below_drew1 | refine below_set ?_ (IsS144.ge HI0.out) | refine below_set ?_ GE1617.out | refine below_set ?_ GE1621.out) | exact HB.out)) hb); replace HI0 := Aside0.mk (IsS144.below (by repeat (first | (with_reducible first | exact HI0.out | apply IsS144.alloc | apply IsS144.drewN | apply IsS144.drew | apply IsS144.set_1 | apply IsS144.set_2 | refine IsS144.far ?_ NB0_1617.out _ | refine IsS144.far ?_ NB0_1621.out _) | exact HI0.out)) hb); clear hb ho37; obtain ⟨Ao38, co38, eo38⟩ := Kd.R_slice HO1636.out; subst eo38) | ((with_reducible refine gate_callee (f := 144) rfl ?_); refine goesL_ (some 61) rfl rfl Try.func144 (by kernel_rfl) rfl #[.pointer (some ⟨g, 0, none⟩), .slice Ao38 y1634.length co38] rfl mp_q ?_; (with_reducible refine (spec_l01PickInt.calls g s0_0 t1632 t1633 _ _ y1634 t1637 t1638 t1639 w0 _ ?side1 ?side2 ?side3 ?side4 ?side5 A33.out).mono ?_); (case side1 => repeat (first | (with_reducible first | exact HI0.out | apply IsS144.alloc | apply IsS144.drewN | apply IsS144.drew | apply IsS144.set_1 | apply IsS144.set_2 | refine IsS144.far ?_ NB0_1617.out _ | refine IsS144.far ?_ NB0_1621.out _) | exact HI0.out)); (case side2 => repeat (first | (with_reducible first | exact HB.out | apply below_alloc | apply pw_below_drewN | apply below_drew1 | refine below_set ?_ (IsS144.ge HI0.out) | refine below_set ?_ GE1617.out | refine below_set ?_ GE1621.out) | exact HB.out)); (case side3 => repeat (first | exact (Kd.R_reads' HO1636.out).2.2 | (with_reducible refine Kd.C_alloc ?_ _) | (with_reducible refine Kd.C_drewN ?_ _) | (with_reducible refine Kd.C_drew ?_))); (case side4 => exact (Kd.R_reads' HO1636.out).2.1); (case side5 => exact far_slice (IsS144.own_ne HI0.out HO1636.out (by decide))); rintro e w39 ⟨rfl, hi, hb, hk⟩; refine ⟨_, rfl, ?_⟩; replace HO_1622001 := Aside0.mk (Kd.R_mono (Kd.R_keep (IsS144.apart (show IsS144 w0 _ g s0_0 t1632 t1633 from by repeat (first | (with_reducible first | exact HI0.out | apply IsS144.alloc | apply IsS144.drewN | apply IsS144.drew | apply IsS144.set_1 | apply IsS144.set_2 | refine IsS144.far ?_ NB0_1617.out _ | refine IsS144.far ?_ NB0_1621.out _) | exact HI0.out)) (kR_q HO_1622001) (by decide)) hk (fun _ h => h.2)) (fun _ h => h.1)); replace BK1617 := Aside0.mk (KeepBut.blk hk (g' := gb1617) (o := .cells #[.int .i64 0, .slice none 0 0, .slice none 0 0] 31 (0, 0)) (bk_q BK1617) NB1617_0.out (by simp)); replace BK1621 := Aside0.mk (KeepBut.blk hk (g' := gb1621) (o := .cells #[.int .i64 (wrap64 (2 + t1618)), u1622001, .slice none 0 0] 31 (0, 0)) (bk_q BK1621) NB1621_0.out (by simp)); replace HO1636 := Aside0.mk (Kd.R_mono (Kd.R_keep (IsS144.apart (show IsS144 w0 _ g s0_0 t1632 t1633 from by repeat (first | (with_reducible first | exact HI0.out | apply IsS144.alloc | apply IsS144.drewN | apply IsS144.drew | apply IsS144.set_1 | apply IsS144.set_2 | refine IsS144.far ?_ NB0_1617.out _ | refine IsS144.far ?_ NB0_1621.out _) | exact HI0.out)) (kR_q HO1636) (by decide)) hk (fun _ h => h.2)) (fun _ h => h.1)); replace HK := Aside0.mk (KeepBut.trans (by repeat (first | (with_reducible first | exact HK.out | apply KeepBut.set_ | apply keep_drewN | apply keep_drew | apply keep_alloc | refine keep_far ?_ GW1617.out _ | refine keep_far ?_ GW1621.out _) | exact HK.out)) hk (.inl rfl)); replace HB := Aside0.mk (hb); replace HI0 := Aside0.mk (hi); (try clear hb); (try clear hb2); (try clear hk); (try clear hi)) | ((with_reducible refine gate_dst (N := 7) rfl ?_); refine box_q 7 #[.int .i64 0, .int .i64 0, .int .i64 0, .int .i64 0] 93 ?_; intro gb1640 hg w40 hbox hb; replace HO_1622001 := Aside0.mk (Kd.R_below (Kd.R_elderB (kR_q HO_1622001) gb1640 (Nat.le_of_eq hg.symm)) hb); replace HO1636 := Aside0.mk (Kd.R_below (kR_q HO1636) hb); replace HB := Aside0.mk (below_step (by repeat (first | (with_reducible first | exact HB.out | apply below_alloc | apply pw_below_drewN | apply below_drew1 | refine below_set ?_ (IsS144.ge HI0.out) | refine below_set ?_ GE1617.out | refine below_set ?_ GE1621.out) | exact HB.out)) hb); have BK1640 := Aside0.mk (hbox); have GW1640 := Aside0.mk ((by rw [hg]; exact (keep_size (w := w) (g := g) (row := none) (by repeat (first | (with_reducible first | exact HK.out | apply KeepBut.set_ | apply keep_drewN | apply keep_drew | apply keep_alloc | refine keep_far ?_ GW1617.out _ | refine keep_far ?_ GW1621.out _) | exact HK.out))) : w.heap.size ≤ gb1640)); have GE1640 := Aside0.mk ((Nat.le_trans HW0.out (by rw [hg]; exact (keep_size (w := w) (g := g) (row := none) (by repeat (first | (with_reducible first | exact HK.out | apply KeepBut.set_ | apply keep_drewN | apply keep_drew | apply keep_alloc | refine keep_far ?_ GW1617.out _ | refine keep_far ?_ GW1621.out _) | exact HK.out))) : w.heap.size ≤ gb1640) : w0.heap.size ≤ gb1640)); replace HK := Aside0.mk (KeepBut.trans (by repeat (first | (with_reducible first | exact HK.out | apply KeepBut.set_ | apply keep_drewN | apply keep_drew | apply keep_alloc | refine keep_far ?_ GW1617.out _ | refine keep_far ?_ GW1621.out _) | exact HK.out)) (KeepBut.of_below hb g none) (.inl rfl)); have NB1617_1640 := Aside0.mk ((by rw [hg]; exact Nat.ne_of_lt (blk_lt (g := gb1617) (o := .cells #[.int .i64 0, .slice none 0 0, .slice none 0 0] 31 (0, 0)) (bk_q BK1617)) : gb1617 ≠ gb1640)); have NB1640_1617 := Aside0.mk ((by rw [hg]; exact Nat.ne_of_gt (blk_lt (g := gb1617) (o := .cells #[.int .i64 0, .slice none 0 0, .slice none 0 0] 31 (0, 0)) (bk_q BK1617)) : gb1640 ≠ gb1617)); replace BK1617 := Aside0.mk (blk_below (g := gb1617) (bk_q BK1617) hb); have NB1621_1640 := Aside0.mk ((by rw [hg]; exact Nat.ne_of_lt (blk_lt (g := gb1621) (o := .cells #[.int .i64 (wrap64 (2 + t1618)), u1622001, .slice none 0 0] 31 (0, 0)) (bk_q BK1621)) : gb1621 ≠ gb1640)); have NB1640_1621 := Aside0.mk ((by rw [hg]; exact Nat.ne_of_gt (blk_lt (g := gb1621) (o := .cells #[.int .i64 (wrap64 (2 + t1618)), u1622001, .slice none 0 0] 31 (0, 0)) (bk_q BK1621)) : gb1640 ≠ gb1621)); replace BK1621 := Aside0.mk (blk_below (g := gb1621) (bk_q BK1621) hb); have NB0_1640 := Aside0.mk ((by rw [hg]; exact Nat.ne_of_lt (IsS144.lt (show IsS144 w0 _ g s0_0 t1638 t1639 from by repeat (first | (with_reducible first | exact HI0.out | apply IsS144.alloc | apply IsS144.drewN | apply IsS144.drew | apply IsS144.set_1 | apply IsS144.set_2 | refine IsS144.far ?_ NB0_1617.out _ | refine IsS144.far ?_ NB0_1621.out _) | exact HI0.out))) : g ≠ gb1640)); have NB1640_0 := Aside0.mk ((by rw [hg]; exact Nat.ne_of_gt (IsS144.lt (show IsS144 w0 _ g s0_0 t1638 t1639 from by repeat (first | (with_reducible first | exact HI0.out | apply IsS144.alloc | apply IsS144.drewN | apply IsS144.drew | apply IsS144.set_1 | apply IsS144.set_2 | refine IsS144.far ?_ NB0_1617.out _ | refine IsS144.far ?_ NB0_1621.out _) | exact HI0.out))) : gb1640 ≠ g)); replace HI0 := Aside0.mk (IsS144.below (by repeat (first | (with_reducible first | exact HI0.out | apply IsS144.alloc | apply IsS144.drewN | apply IsS144.drew | apply IsS144.set_1 | apply IsS144.set_2 | refine IsS144.far ?_ NB0_1617.out _ | refine IsS144.far ?_ NB0_1621.out _) | exact HI0.out)) hb); clear hb hbox hg; have hnb41 := NB1640_1617.out; have hnc41 := NB1617_1640.out; have hnb42 := NB1640_1621.out; have hnc42 := NB1621_1640.out; have hnb43 := NB1640_0.out; have hnc43 := NB0_1640.out; have hcz44_0 : w40.cell? ⟨gb1640, 0, none⟩ = some (.int .i64 0) := (blk_cell BK1640.out 0).trans rfl; have hcz44_1 : w40.cell? ⟨gb1640, 1, none⟩ = some (.int .i64 0) := (blk_cell BK1640.out 1).trans rfl; have hcz44_2 : w40.cell? ⟨gb1640, 2, none⟩ = some (.int .i64 0) := (blk_cell BK1640.out 2).trans rfl; have hcz44_3 : w40.cell? ⟨gb1640, 3, none⟩ = some (.int .i64 0) := (blk_cell BK1640.out 3).trans rfl; have hfz44_0 := blk_frozen BK1640.out 0; have hfz44_1 := blk_frozen BK1640.out 1; have hfz44_2 := blk_frozen BK1640.out 2; have hfz44_3 := blk_frozen BK1640.out 3; have hnb45 := NB1621_1617.out; have hnc45 := NB1617_1621.out; have hnb46 := NB1621_0.out; have hnc46 := NB0_1621.out; have hcz47_0 : w40.cell? ⟨gb1621, 0, none⟩ = some (.int .i64 (wrap64 (2 + t1618))) := (blk_cell BK1621.out 0).trans rfl; have hcz47_1 : w40.cell? ⟨gb1621, 1, none⟩ = some (u1622001) := (blk_cell BK1621.out 1).trans rfl; have hcz47_2 : w40.cell? ⟨gb1621, 2, none⟩ = some (.slice none 0 0) := (blk_cell BK1621.out 2).trans rfl; have hfz47_0 := blk_frozen BK1621.out 0; have hfz47_1 := blk_frozen BK1621.out 1; have hfz47_2 := blk_frozen BK1621.out 2; obtain ⟨Ao48, co48, eo48⟩ := Kd.R_slice HO_1622001.out; subst eo48))
          have n0_ : Aside0 (Kd.R k93 93 ((((w40.setCell ⟨gb1640, 0, none⟩ (.int .i64 x5_29)).setCell ⟨gb1640, 1, none⟩ (.int .i64 x6_29)).setCell ⟨gb1640, 2, none⟩ (.int .i64 (wrap64 (1 + t1631)))).setCell ⟨gb1640, 3, none⟩ (.int .i64 t1637)) w.heap.size (fun k_ => k_ ≠ gb1640) (.slice Ao48 x1622001_1.length co48) x1622001_1) := ⟨by (with_reducible repeat (first | apply Kd.R_alloc | apply Kd.R_drewN | apply Kd.R_drew)); exact Kd.R_mono (Kd.R_far (p := ⟨gb1640, 3, none⟩) (Kd.R_far (p := ⟨gb1640, 2, none⟩) (Kd.R_far (p := ⟨gb1640, 1, none⟩) (Kd.R_far (p := ⟨gb1640, 0, none⟩) (Kd.R_mono HO_1622001.out (fun k_ hk => (⟨hk, hk.2⟩ : _ ∧ k_ ≠ gb1640))) (fun _ hk => hk.2) (.int .i64 x5_29)) (fun _ hk => hk.2) (.int .i64 x6_29)) (fun _ hk => hk.2) (.int .i64 (wrap64 (1 + t1631)))) (fun _ hk => hk.2) (.int .i64 t1637)) (fun _ hk => hk.1.2)⟩
          have n1_ : Aside0 (Kd.R (Kd.int .i64) 3 ((((w40.setCell ⟨gb1640, 0, none⟩ (.int .i64 x5_29)).setCell ⟨gb1640, 1, none⟩ (.int .i64 x6_29)).setCell ⟨gb1640, 2, none⟩ (.int .i64 (wrap64 (1 + t1631)))).setCell ⟨gb1640, 3, none⟩ (.int .i64 t1637)) w.heap.size (fun _ => True) (.slice Ao38 y1634.length co38) y1634) := ⟨by (with_reducible repeat (first | apply Kd.R_alloc | apply Kd.R_drewN | apply Kd.R_drew)); exact Kd.R_mono (Kd.R_far (p := ⟨gb1640, 3, none⟩) (Kd.R_far (p := ⟨gb1640, 2, none⟩) (Kd.R_far (p := ⟨gb1640, 1, none⟩) (Kd.R_far (p := ⟨gb1640, 0, none⟩) (Kd.R_types HO1636.out BK1640.out (by decide)) (fun _ hk => hk.2) (.int .i64 x5_29)) (fun _ hk => hk.2) (.int .i64 x6_29)) (fun _ hk => hk.2) (.int .i64 (wrap64 (1 + t1631)))) (fun _ hk => hk.2) (.int .i64 t1637)) (fun _ hk => trivial)⟩
          have n2_ : Aside0 (((((w40.setCell ⟨gb1640, 0, none⟩ (.int .i64 x5_29)).setCell ⟨gb1640, 1, none⟩ (.int .i64 x6_29)).setCell ⟨gb1640, 2, none⟩ (.int .i64 (wrap64 (1 + t1631)))).setCell ⟨gb1640, 3, none⟩ (.int .i64 t1637)).heap[gb1617]? = some (.cells #[.int .i64 0, .slice none 0 0, .slice none 0 0] 31 (0, 0))) := ⟨by refine bz_ ?_; refine blk_far ?_ NB1617_1640.out _; refine bz_ ?_; refine blk_far ?_ NB1617_1640.out _; refine bz_ ?_; refine blk_far ?_ NB1617_1640.out _; refine bz_ ?_; refine blk_far ?_ NB1617_1640.out _; refine bz_ ?_; exact BK1617.out⟩
          have n3_ : Aside0 (((((w40.setCell ⟨gb1640, 0, none⟩ (.int .i64 x5_29)).setCell ⟨gb1640, 1, none⟩ (.int .i64 x6_29)).setCell ⟨gb1640, 2, none⟩ (.int .i64 (wrap64 (1 + t1631)))).setCell ⟨gb1640, 3, none⟩ (.int .i64 t1637)).heap[gb1621]? = some (.cells #[.int .i64 (wrap64 (2 + t1618)), .slice Ao48 x1622001_1.length co48, .slice none 0 0] 31 (0, 0))) := ⟨by refine bz_ ?_; refine blk_far ?_ NB1621_1640.out _; refine bz_ ?_; refine blk_far ?_ NB1621_1640.out _; refine bz_ ?_; refine blk_far ?_ NB1621_1640.out _; refine bz_ ?_; refine blk_far ?_ NB1621_1640.out _; refine bz_ ?_; exact BK1621.out⟩
          have n4_ : Aside0 (((((w40.setCell ⟨gb1640, 0, none⟩ (.int .i64 x5_29)).setCell ⟨gb1640, 1, none⟩ (.int .i64 x6_29)).setCell ⟨gb1640, 2, none⟩ (.int .i64 (wrap64 (1 + t1631)))).setCell ⟨gb1640, 3, none⟩ (.int .i64 t1637)).heap[gb1640]? = some (.cells #[.int .i64 x5_29, .int .i64 x6_29, .int .i64 (wrap64 (1 + t1631)), .int .i64 t1637] 93 (0, 0))) := ⟨by refine bz_ ?_; refine blk_put (cs := #[.int .i64 x5_29, .int .i64 x6_29, .int .i64 (wrap64 (1 + t1631)), .int .i64 0]) ?_ 3 _ rfl; refine bz_ ?_; refine blk_put (cs := #[.int .i64 x5_29, .int .i64 x6_29, .int .i64 0, .int .i64 0]) ?_ 2 _ rfl; refine bz_ ?_; refine blk_put (cs := #[.int .i64 x5_29, .int .i64 0, .int .i64 0, .int .i64 0]) ?_ 1 _ rfl; refine bz_ ?_; refine blk_put (cs := #[.int .i64 0, .int .i64 0, .int .i64 0, .int .i64 0]) ?_ 0 _ rfl; refine bz_ ?_; exact BK1640.out⟩
          have n5_ : Aside0 (IsS144 w0 ((((w40.setCell ⟨gb1640, 0, none⟩ (.int .i64 x5_29)).setCell ⟨gb1640, 1, none⟩ (.int .i64 x6_29)).setCell ⟨gb1640, 2, none⟩ (.int .i64 (wrap64 (1 + t1631)))).setCell ⟨gb1640, 3, none⟩ (.int .i64 t1637)) g s0_0 t1638 t1639) := ⟨by repeat (first | (with_reducible first | exact HI0.out | apply IsS144.alloc | apply IsS144.drewN | apply IsS144.drew | apply IsS144.set_1 | apply IsS144.set_2 | refine IsS144.far ?_ NB0_1617.out _ | refine IsS144.far ?_ NB0_1621.out _ | refine IsS144.far ?_ NB0_1640.out _) | exact HI0.out)⟩
          have n6_ : Aside0 (KeepBut w ((((w40.setCell ⟨gb1640, 0, none⟩ (.int .i64 x5_29)).setCell ⟨gb1640, 1, none⟩ (.int .i64 x6_29)).setCell ⟨gb1640, 2, none⟩ (.int .i64 (wrap64 (1 + t1631)))).setCell ⟨gb1640, 3, none⟩ (.int .i64 t1637)) g none) := ⟨by repeat (first | (with_reducible first | exact HK.out | apply KeepBut.set_ | apply keep_drewN | apply keep_drew | apply keep_alloc | refine keep_far ?_ GW1617.out _ | refine keep_far ?_ GW1621.out _ | refine keep_far ?_ GW1640.out _) | exact HK.out)⟩
          have n7_ : Aside0 (Below w0.heap.size w0 ((((w40.setCell ⟨gb1640, 0, none⟩ (.int .i64 x5_29)).setCell ⟨gb1640, 1, none⟩ (.int .i64 x6_29)).setCell ⟨gb1640, 2, none⟩ (.int .i64 (wrap64 (1 + t1631)))).setCell ⟨gb1640, 3, none⟩ (.int .i64 t1637))) := ⟨by repeat (first | (with_reducible first | exact HB.out | apply below_alloc | apply pw_below_drewN | apply below_drew1 | refine below_set ?_ (IsS144.ge HI0.out) | refine below_set ?_ GE1617.out | refine below_set ?_ GE1621.out | refine below_set ?_ GE1640.out) | exact HB.out)⟩
          (try clear HO_1622001)
          (try clear HO1636)
          (try clear BK1617)
          (try clear BK1621)
          (try clear BK1640)
          (try clear HI0)
          (try clear HK)
          (try clear HB)
          generalize ((((w40.setCell ⟨gb1640, 0, none⟩ (.int .i64 x5_29)).setCell ⟨gb1640, 1, none⟩ (.int .i64 x6_29)).setCell ⟨gb1640, 2, none⟩ (.int .i64 (wrap64 (1 + t1631)))).setCell ⟨gb1640, 3, none⟩ (.int .i64 t1637)) = w49 at n0_ n1_ n2_ n3_ n4_ n5_ n6_ n7_ ⊢
          have HO_1622001 := n0_
          have HO1636 := n1_
          have BK1617 := n2_
          have BK1621 := n3_
          have BK1640 := n4_
          have HI0 := n5_
          have HK := n6_
          have HB := n7_
          clear n0_ n1_ n2_ n3_ n4_ n5_ n6_ n7_
          have H := HC34.out
          clear HC34
          by_cases c50 : (x1622001_1.length : Int) < 12
          ·rw [if_pos c50] at H
           have c50b0 : decide ((x1622001_1.length : Int) < 12) = true := decide_eq_true c50
           have c50b1 : decide (x1622001_1.length < 12) = true := decide_eq_true (by omega)
           clear c50
           (first | rw [c50b0] | rw [c50b1] | (simp only [i64_w, i32_w]; first | rw [c50b0] | rw [c50b1]) | skip)
           replace H := Option.bind_eq_some_iff.mp H
           obtain ⟨t1641, A510, H⟩ := H
           replace H : (spec_l03Net.l0 kj29 (wrap64 (x4_1 + 1)) s0_0 t1638 t1639 (wrap64 (2 + t1618)) t1641) = some (r1, r2, r3, r4, r5) := H
           have A51 := Aside0.mk A510
           clear A510
           have H' := Aside0.mk H
           clear H
           have hnb52 := NB1621_1617.out
           have hnc52 := NB1617_1621.out
           have hnb53 := NB1621_1640.out
           have hnc53 := NB1640_1621.out
           have hnb54 := NB1621_0.out
           have hnc54 := NB0_1621.out
           obtain ⟨hcz55_0, hcz55_1, hcz55_2⟩ := cz3_ BK1621
           obtain ⟨hfz55_0, hfz55_1, hfz55_2⟩ := fz3_ BK1621
           have hnb56 := NB1640_1617.out
           have hnc56 := NB1617_1640.out
           have hnb57 := NB1640_0.out
           have hnc57 := NB0_1640.out
           obtain ⟨hcz58_0, hcz58_1, hcz58_2, hcz58_3⟩ := cz4_ BK1640
           obtain ⟨hfz58_0, hfz58_1, hfz58_2, hfz58_3⟩ := fz4_ BK1640
           go_wp2_with (first | ((with_reducible refine gate_callee (f := 145) rfl ?_); refine goesL_ (some 70) rfl rfl Try.func145 (by kernel_rfl) rfl #[.slice Ao48 x1622001_1.length co48, .agg #[.int .i64 x5_29, .int .i64 x6_29, .int .i64 (wrap64 (1 + t1631)), .int .i64 t1637]] rfl mp_q ?_; (with_reducible refine (spec_l03Put.calls kj29 _ _ x1622001_1 x5_29 x6_29 (wrap64 (1 + t1631)) t1637 t1641 _ ?side1 ?side2 A51.out).mono ?_); (case side1 => repeat (first | exact (Kd.R_reads' HO_1622001.out).2.2 | (with_reducible refine Kd.C_alloc ?_ _) | (with_reducible refine Kd.C_drewN ?_ _) | (with_reducible refine Kd.C_drew ?_))); (case side2 => exact (Kd.R_reads' HO_1622001.out).2.1); rintro e w59 ⟨v1642, rfl, ho0, hb⟩; refine ⟨_, rfl, ?_⟩; replace HO1636 := Aside0.mk (Kd.R_below (kR_q HO1636) hb); have HO1643 := Aside0.mk (Kd.R_lower (Kd.R_newB (Kd.R_new' ho0 (Kd.R_lt (kR_q HO_1622001))) (g := gb1640) (o := .cells #[.int .i64 x5_29, .int .i64 x6_29, .int .i64 (wrap64 (1 + t1631)), .int .i64 t1637] 93 (0, 0)) (bk_q BK1640)) (keep_size (w := w) (g := g) (row := none) (by repeat (first | (with_reducible first | exact HK.out | apply KeepBut.set_ | apply keep_drewN | apply keep_drew | apply keep_alloc | refine keep_far ?_ GW1617.out _ | refine keep_far ?_ GW1621.out _ | refine keep_far ?_ GW1640.out _) | exact HK.out)))); replace HO_1622001 := Aside0.mk (Kd.R_elder' (kR_q HO_1622001) (Kd.R_base ho0) hb); replace BK1617 := Aside0.mk (blk_below (g := gb1617) (bk_q BK1617) hb); replace BK1621 := Aside0.mk (blk_below (g := gb1621) (bk_q BK1621) hb); replace BK1640 := Aside0.mk (blk_below (g := gb1640) (bk_q BK1640) hb); replace HK := Aside0.mk (KeepBut.trans (by repeat (first | (with_reducible first | exact HK.out | apply KeepBut.set_ | apply keep_drewN | apply keep_drew | apply keep_alloc | refine keep_far ?_ GW1617.out _ | refine keep_far ?_ GW1621.out _ | refine keep_far ?_ GW1640.out _) | exact HK.out)) (KeepBut.of_below hb g none) (.inl rfl)); replace HB := Aside0.mk (below_step (by repeat (first | (with_reducible first | exact HB.out | apply below_alloc | apply pw_below_drewN | apply below_drew1 | refine below_set ?_ (IsS144.ge HI0.out) | refine below_set ?_ GE1617.out | refine below_set ?_ GE1621.out | refine below_set ?_ GE1640.out) | exact HB.out)) hb); replace HI0 := Aside0.mk (IsS144.below (by repeat (first | (with_reducible first | exact HI0.out | apply IsS144.alloc | apply IsS144.drewN | apply IsS144.drew | apply IsS144.set_1 | apply IsS144.set_2 | refine IsS144.far ?_ NB0_1617.out _ | refine IsS144.far ?_ NB0_1621.out _ | refine IsS144.far ?_ NB0_1640.out _) | exact HI0.out)) hb); (try clear hb); (try clear hb2); (try clear hk); (try clear hi); (try clear ho0); obtain ⟨Ao60, co60, eo60⟩ := Kd.R_slice HO1643.out; subst eo60; have hcz61_0 : w59.cell? ⟨gb1621, 0, none⟩ = some (.int .i64 (wrap64 (2 + t1618))) := (blk_cell BK1621.out 0).trans rfl; have hcz61_1 : w59.cell? ⟨gb1621, 1, none⟩ = some (.slice Ao48 x1622001_1.length co48) := (blk_cell BK1621.out 1).trans rfl; have hcz61_2 : w59.cell? ⟨gb1621, 2, none⟩ = some (.slice none 0 0) := (blk_cell BK1621.out 2).trans rfl; have hfz61_0 := blk_frozen BK1621.out 0; have hfz61_1 := blk_frozen BK1621.out 1; have hfz61_2 := blk_frozen BK1621.out 2))
           go_roundg kj29
           case measure => have := HK1.out; have := HJ12.out; have := HJ23.out; have := HJ29.out; omega
           case rel => exact ⟨(wrap64 (x4_1 + 1)), (t1638), (t1639), (t1641), (.slice Ao60 t1641.length co60), (by first | rfl | (simp; done) | (simp [*]; done)), H', ⟨by have := HK1.out; have := HJ12.out; have := HJ23.out; have := HJ29.out; omega⟩, ⟨by (with_reducible repeat (first | apply Kd.R_alloc | apply Kd.R_drewN | apply Kd.R_drew)); exact Kd.R_mono (Kd.R_far (p := ⟨gb1621, 1, none⟩) (Kd.R_types HO1643.out BK1621.out (by decide)) (fun _ hk => hk.2) (.slice Ao60 t1641.length co60)) (fun _ hk => trivial)⟩, ⟨by refine bz_ ?_; refine blk_far ?_ NB1617_1621.out _; refine bz_ ?_; exact BK1617.out⟩, ⟨by refine bz_ ?_; refine blk_put (cs := #[.int .i64 (wrap64 (2 + t1618)), .slice Ao48 x1622001_1.length co48, .slice none 0 0]) ?_ 1 _ rfl; refine bz_ ?_; exact BK1621.out⟩, ⟨by repeat (first | (with_reducible first | exact HI0.out | apply IsS144.alloc | apply IsS144.drewN | apply IsS144.drew | apply IsS144.set_1 | apply IsS144.set_2 | refine IsS144.far ?_ NB0_1617.out _ | refine IsS144.far ?_ NB0_1621.out _ | refine IsS144.far ?_ NB0_1640.out _) | exact HI0.out)⟩, ⟨by repeat (first | (with_reducible first | exact HK.out | apply KeepBut.set_ | apply keep_drewN | apply keep_drew | apply keep_alloc | refine keep_far ?_ GW1617.out _ | refine keep_far ?_ GW1621.out _ | refine keep_far ?_ GW1640.out _) | exact HK.out)⟩, ⟨by repeat (first | (with_reducible first | exact HB.out | apply below_alloc | apply pw_below_drewN | apply below_drew1 | refine below_set ?_ (IsS144.ge HI0.out) | refine below_set ?_ GE1617.out | refine below_set ?_ GE1621.out | refine below_set ?_ GE1640.out) | exact HB.out)⟩⟩
          ·rw [if_neg c50] at H
           have c50b0 : decide ((x1622001_1.length : Int) < 12) = false := decide_eq_false c50
           have c50b1 : decide (x1622001_1.length < 12) = false := decide_eq_false (by omega)
           clear c50
           (first | rw [c50b0] | rw [c50b1] | (simp only [i64_w, i32_w]; first | rw [c50b0] | rw [c50b1]) | skip)
           have H' := Aside0.mk H
           clear H
           go_wp2
           go_roundg kj29
           case measure => have := HK1.out; have := HJ12.out; have := HJ23.out; have := HJ29.out; omega
           case rel => exact ⟨(wrap64 (x4_1 + 1)), (t1638), (t1639), (x1622001_1), (.slice Ao48 x1622001_1.length co48), (by first | rfl | (simp; done) | (simp [*]; done)), H', ⟨by have := HK1.out; have := HJ12.out; have := HJ23.out; have := HJ29.out; omega⟩, ⟨by (with_reducible repeat (first | apply Kd.R_alloc | apply Kd.R_drewN | apply Kd.R_drew)); exact Kd.R_mono HO_1622001.out (fun _ hk => trivial)⟩, ⟨by refine bz_ ?_; exact BK1617.out⟩, ⟨by refine bz_ ?_; exact BK1621.out⟩, ⟨by repeat (first | (with_reducible first | exact HI0.out | apply IsS144.alloc | apply IsS144.drewN | apply IsS144.drew | apply IsS144.set_1 | apply IsS144.set_2 | refine IsS144.far ?_ NB0_1617.out _ | refine IsS144.far ?_ NB0_1621.out _ | refine IsS144.far ?_ NB0_1640.out _) | exact HI0.out)⟩, ⟨by repeat (first | (with_reducible first | exact HK.out | apply KeepBut.set_ | apply keep_drewN | apply keep_drew | apply keep_alloc | refine keep_far ?_ GW1617.out _ | refine keep_far ?_ GW1621.out _ | refine keep_far ?_ GW1640.out _) | exact HK.out)⟩, ⟨by repeat (first | (with_reducible first | exact HB.out | apply below_alloc | apply pw_below_drewN | apply below_drew1 | refine below_set ?_ (IsS144.ge HI0.out) | refine below_set ?_ GE1617.out | refine below_set ?_ GE1621.out | refine below_set ?_ GE1640.out) | exact HB.out)⟩⟩
   ·rw [if_neg c10] at H
    have c10b0 : decide (x4_1 < (wrap64 ((wrap64 (2 + t1618)) + t1622))) = false := decide_eq_false c10
    (first | rw [c10b0] | (simp only [i64_w, i32_w]; first | rw [c10b0]) | skip)
    clear c10
    have H' := Aside0.mk H
    clear H
    refine done_ (by kernel_rfl) ?_
    try go_wp2
    go_loopg [8] k1 (fun kq v8 w' => ∃ (x8_2 : Int) (x1001_2 : Int) (x1002_2 : Int) (x1622002_2 : List (S102)) (u1622002 : Value), v8 = .int .i64 x8_2 ∧ Aside0 (spec_l03Net.l1 kq x8_2 s0_0 x1001_2 x1002_2 (wrap64 (2 + t1618)) x1622001_1 x1622002_2 = some (r1, r2, r3, r4, r5)) ∧ Aside0 (kq ≤ k1) ∧ Aside0 (Kd.R k93 93 w' w.heap.size (fun _ => True) u1622001 x1622001_1) ∧ Aside0 (Kd.R k102 102 w' w.heap.size (fun _ => True) u1622002 x1622002_2) ∧ Aside0 (w'.heap[gb1617]? = some (.cells #[.int .i64 0, (.slice none 0 0), (.slice none 0 0)] 31 (0, 0))) ∧ Aside0 (w'.heap[gb1621]? = some (.cells #[.int .i64 (wrap64 (2 + t1618)), u1622001, u1622002] 31 (0, 0))) ∧ Aside0 (IsS144 w0 w' g s0_0 x1001_2 x1002_2) ∧ Aside0 (KeepBut w w' g none) ∧ Aside0 (Below w0.heap.size w0 w'))
    case atStart => exact ⟨(0), (t1623), (t1624), (([] : List (S102))), (.slice none 0 0), (by first | rfl | (simp; done) | (simp [*]; done)), H', ⟨Nat.le_refl _⟩, ⟨by (with_reducible repeat (first | apply Kd.R_alloc | apply Kd.R_drewN | apply Kd.R_drew)); exact HO_1622001.out⟩, ⟨by first | exact Kd.R_nil _ _ _ _ _ | exact Kd.N_nil _ _ _ _ _ | exact Kd.V_nil _ _ _ _ _ | exact Kd.Q_nil _ _ _ _ _ | exact Kd.S_nil _ _ _ _ _⟩, ⟨by refine bz_ ?_; exact BK1617.out⟩, ⟨by refine bz_ ?_; exact BK1621.out⟩, ⟨by repeat (first | (with_reducible first | exact HI0.out | apply IsS144.alloc | apply IsS144.drewN | apply IsS144.drew | apply IsS144.set_1 | apply IsS144.set_2 | refine IsS144.far ?_ NB0_1617.out _ | refine IsS144.far ?_ NB0_1621.out _) | exact HI0.out)⟩, ⟨by repeat (first | (with_reducible first | exact HK.out | apply KeepBut.set_ | apply keep_drewN | apply keep_drew | apply keep_alloc | refine keep_far ?_ GW1617.out _ | refine keep_far ?_ GW1621.out _) | exact HK.out)⟩, ⟨by repeat (first | (with_reducible first | exact HB.out | apply below_alloc | apply pw_below_drewN | apply below_drew1 | refine below_set ?_ (IsS144.ge HI0.out) | refine below_set ?_ GE1617.out | refine below_set ?_ GE1621.out) | exact HB.out)⟩⟩
    case round =>
     clear H'
     try clear c1
     try clear c2
     try clear p2
     try clear c3
     try clear c4
     try clear c5
     try clear c6
     try clear p6
     try clear c7
     try clear c10
     try clear c10b0
     try clear c11
     try clear c12
     try clear c14
     try clear c16
     try clear c17
     try clear c23
     try clear c23b0
     try clear c23b1
     try clear c25
     try clear c25b0
     try clear c25b1
     try clear c26
     try clear c26b0
     try clear c26b1
     try clear c27
     try clear c28
     try clear c31
     try clear c31b0
     try clear c31b1
     try clear c41
     try clear c42
     try clear c43
     try clear c45
     try clear c46
     try clear c50
     try clear c50b0
     try clear c50b1
     try clear c52
     try clear c53
     try clear c54
     try clear c56
     try clear c57
     try clear hcz18_0
     try clear hcz18_1
     try clear hcz18_2
     try clear hcz20_0
     try clear hcz20_1
     try clear hcz20_2
     try clear hcz22_0
     try clear hcz22_1
     try clear hcz22_2
     try clear hcz29_0
     try clear hcz29_1
     try clear hcz29_2
     try clear hcz44_0
     try clear hcz44_1
     try clear hcz44_2
     try clear hcz44_3
     try clear hcz47_0
     try clear hcz47_1
     try clear hcz47_2
     try clear hcz55_0
     try clear hcz55_1
     try clear hcz55_2
     try clear hcz58_0
     try clear hcz58_1
     try clear hcz58_2
     try clear hcz58_3
     try clear hcz61_0
     try clear hcz61_1
     try clear hcz61_2
     try clear hcz8_0
     try clear hcz8_1
     try clear hcz8_2
     try clear hfz18_0
     try clear hfz18_1
     try clear hfz18_2
     try clear hfz20_0
     try clear hfz20_1
     try clear hfz20_2
     try clear hfz22_0
     try clear hfz22_1
     try clear hfz22_2
     try clear hfz29_0
     try clear hfz29_1
     try clear hfz29_2
     try clear hfz44_0
     try clear hfz44_1
     try clear hfz44_2
     try clear hfz44_3
     try clear hfz47_0
     try clear hfz47_1
     try clear hfz47_2
     try clear hfz55_0
     try clear hfz55_1
     try clear hfz55_2
     try clear hfz58_0
     try clear hfz58_1
     try clear hfz58_2
     try clear hfz58_3
     try clear hfz61_0
     try clear hfz61_1
     try clear hfz61_2
     try clear hfz8_0
     try clear hfz8_1
     try clear hfz8_2
     try clear p2
     try clear p6
     obtain ⟨x8_2, x1001_2, x1002_2, x1622002_2, u1622002, rfl, HA, HK2, HO_1622001, HO_1622002, BK1617, BK1621, HI0, HK, HB⟩ := hrel
     cases gk with
     | zero => exact absurd HA.out (by simp [spec_l03Net.l1])
     | succ k2 =>
      have H := HA.out
      clear HA
      simp only [spec_l03Net.l1] at H
      replace H := Option.bind_eq_some_iff.mp H
      obtain ⟨⟨t1644, t1645, t1646⟩, A640, H⟩ := H
      replace H : (if x8_2 < t1644 then ((spec_l01Below.f s0_0 t1645 t1646 (wrap64 (2 + t1618))).bind fun bt1647 => ((spec_l01Below.f s0_0 bt1647.2.1 bt1647.2.2 3).bind fun bt1650 => ((spec_l01Below.f s0_0 bt1650.2.1 bt1650.2.2 5).bind fun bt1653 => ((spec_l01Once.f s0_0 bt1653.2.1 bt1653.2.2 2).bind fun bt1656 => ((spec_l03PutThing.f k2 x1622002_2 (wrap64 (1 + bt1647.1)) (wrap64 (1 + bt1650.1)) (wrap64 (1 + bt1653.1)) bt1656.1).bind fun t1659 => (spec_l03Net.l1 k2 (wrap64 (x8_2 + 1)) s0_0 bt1656.2.1 bt1656.2.2 (wrap64 (2 + t1618)) x1622001_1 t1659)))))) else (some ((wrap64 (2 + t1618)), x1622001_1, x1622002_2, t1645, t1646))) = some (r1, r2, r3, r4, r5) := H
      have A64 := Aside0.mk A640
      clear A640
      have HC65 := Aside0.mk H
      clear H
      go_upto_if 75 with (first | ((with_reducible refine gate_callee (f := 115) rfl ?_); refine goesL_ (some 74) rfl rfl Try.func115 (by kernel_rfl) rfl #[.pointer (some ⟨g, 0, none⟩), .int .i64 3] rfl mp_q ?_; (with_reducible refine (spec_l01Below.calls g s0_0 x1001_2 x1002_2 3 t1644 t1645 t1646 w0 _ ?side1 ?side2 A64.out).mono ?_); (case side1 => repeat (first | (with_reducible first | exact HI0.out | apply IsS144.alloc | apply IsS144.drewN | apply IsS144.drew | apply IsS144.set_1 | apply IsS144.set_2 | refine IsS144.far ?_ NB0_1617.out _ | refine IsS144.far ?_ NB0_1621.out _) | exact HI0.out)); (case side2 => repeat (first | (with_reducible first | exact HB.out | apply below_alloc | apply pw_below_drewN | apply below_drew1 | refine below_set ?_ (IsS144.ge HI0.out) | refine below_set ?_ GE1617.out | refine below_set ?_ GE1621.out) | exact HB.out)); rintro e w66 ⟨rfl, hi, hb, hk⟩; refine ⟨_, rfl, ?_⟩; replace HO_1622001 := Aside0.mk (Kd.R_mono (Kd.R_keep (IsS144.apart (show IsS144 w0 _ g s0_0 x1001_2 x1002_2 from by repeat (first | (with_reducible first | exact HI0.out | apply IsS144.alloc | apply IsS144.drewN | apply IsS144.drew | apply IsS144.set_1 | apply IsS144.set_2 | refine IsS144.far ?_ NB0_1617.out _ | refine IsS144.far ?_ NB0_1621.out _) | exact HI0.out)) (kR_q HO_1622001) (by decide)) hk (fun _ h => h.2)) (fun _ h => h.1)); replace HO_1622002 := Aside0.mk (Kd.R_mono (Kd.R_keep (IsS144.apart (show IsS144 w0 _ g s0_0 x1001_2 x1002_2 from by repeat (first | (with_reducible first | exact HI0.out | apply IsS144.alloc | apply IsS144.drewN | apply IsS144.drew | apply IsS144.set_1 | apply IsS144.set_2 | refine IsS144.far ?_ NB0_1617.out _ | refine IsS144.far ?_ NB0_1621.out _) | exact HI0.out)) (kR_q HO_1622002) (by decide)) hk (fun _ h => h.2)) (fun _ h => h.1)); replace BK1617 := Aside0.mk (KeepBut.blk hk (g' := gb1617) (o := .cells #[.int .i64 0, .slice none 0 0, .slice none 0 0] 31 (0, 0)) (bk_q BK1617) NB1617_0.out (by simp)); replace BK1621 := Aside0.mk (KeepBut.blk hk (g' := gb1621) (o := .cells #[.int .i64 (wrap64 (2 + t1618)), u1622001, u1622002] 31 (0, 0)) (bk_q BK1621) NB1621_0.out (by simp)); replace HK := Aside0.mk (KeepBut.trans (by repeat (first | (with_reducible first | exact HK.out | apply KeepBut.set_ | apply keep_drewN | apply keep_drew | apply keep_alloc | refine keep_far ?_ GW1617.out _ | refine keep_far ?_ GW1621.out _) | exact HK.out)) hk (.inl rfl)); replace HB := Aside0.mk (hb); replace HI0 := Aside0.mk (hi); (try clear hb); (try clear hb2); (try clear hk); (try clear hi)))
      have H := HC65.out
      clear HC65
      by_cases c67 : x8_2 < t1644
      ·rw [if_pos c67] at H
       have c67b0 : decide (x8_2 < t1644) = true := decide_eq_true c67
       clear c67
       (first | rw [c67b0] | rw [c67b1] | (simp only [i64_w, i32_w]; first | rw [c67b0] | rw [c67b1]) | skip)
       replace H := Option.bind_eq_some_iff.mp H
       obtain ⟨⟨t1647, t1648, t1649⟩, A680, H⟩ := H
       replace H : ((spec_l01Below.f s0_0 t1648 t1649 3).bind fun bt1650 => ((spec_l01Below.f s0_0 bt1650.2.1 bt1650.2.2 5).bind fun bt1653 => ((spec_l01Once.f s0_0 bt1653.2.1 bt1653.2.2 2).bind fun bt1656 => ((spec_l03PutThing.f k2 x1622002_2 (wrap64 (1 + t1647)) (wrap64 (1 + bt1650.1)) (wrap64 (1 + bt1653.1)) bt1656.1).bind fun t1659 => (spec_l03Net.l1 k2 (wrap64 (x8_2 + 1)) s0_0 bt1656.2.1 bt1656.2.2 (wrap64 (2 + t1618)) x1622001_1 t1659))))) = some (r1, r2, r3, r4, r5) := H
       have A68 := Aside0.mk A680
       clear A680
       replace H := Option.bind_eq_some_iff.mp H
       obtain ⟨⟨t1650, t1651, t1652⟩, A690, H⟩ := H
       replace H : ((spec_l01Below.f s0_0 t1651 t1652 5).bind fun bt1653 => ((spec_l01Once.f s0_0 bt1653.2.1 bt1653.2.2 2).bind fun bt1656 => ((spec_l03PutThing.f k2 x1622002_2 (wrap64 (1 + t1647)) (wrap64 (1 + t1650)) (wrap64 (1 + bt1653.1)) bt1656.1).bind fun t1659 => (spec_l03Net.l1 k2 (wrap64 (x8_2 + 1)) s0_0 bt1656.2.1 bt1656.2.2 (wrap64 (2 + t1618)) x1622001_1 t1659)))) = some (r1, r2, r3, r4, r5) := H
       have A69 := Aside0.mk A690
       clear A690
       replace H := Option.bind_eq_some_iff.mp H
       obtain ⟨⟨t1653, t1654, t1655⟩, A700, H⟩ := H
       replace H : ((spec_l01Once.f s0_0 t1654 t1655 2).bind fun bt1656 => ((spec_l03PutThing.f k2 x1622002_2 (wrap64 (1 + t1647)) (wrap64 (1 + t1650)) (wrap64 (1 + t1653)) bt1656.1).bind fun t1659 => (spec_l03Net.l1 k2 (wrap64 (x8_2 + 1)) s0_0 bt1656.2.1 bt1656.2.2 (wrap64 (2 + t1618)) x1622001_1 t1659))) = some (r1, r2, r3, r4, r5) := H
       have A70 := Aside0.mk A700
       clear A700
       replace H := Option.bind_eq_some_iff.mp H
       obtain ⟨⟨t1656, t1657, t1658⟩, A710, H⟩ := H
       replace H : ((spec_l03PutThing.f k2 x1622002_2 (wrap64 (1 + t1647)) (wrap64 (1 + t1650)) (wrap64 (1 + t1653)) t1656).bind fun t1659 => (spec_l03Net.l1 k2 (wrap64 (x8_2 + 1)) s0_0 t1657 t1658 (wrap64 (2 + t1618)) x1622001_1 t1659)) = some (r1, r2, r3, r4, r5) := H
       have A71 := Aside0.mk A710
       clear A710
       replace H := Option.bind_eq_some_iff.mp H
       obtain ⟨t1659, A720, H⟩ := H
       replace H : (spec_l03Net.l1 k2 (wrap64 (x8_2 + 1)) s0_0 t1657 t1658 (wrap64 (2 + t1618)) x1622001_1 t1659) = some (r1, r2, r3, r4, r5) := H
       have A72 := Aside0.mk A720
       clear A720
       have H' := Aside0.mk H
       clear H
       try go_wp2
       replace HO_1622001 := Aside0.mk (Kd.R_drew HO_1622001.out)
       replace HO_1622002 := Aside0.mk (Kd.R_drew HO_1622002.out)
       replace BK1617 := Aside0.mk (blk_drew BK1617.out)
       replace BK1621 := Aside0.mk (blk_drew BK1621.out)
       replace HI0 := Aside0.mk (IsS144.drew HI0.out)
       replace HK := Aside0.mk (keep_drew HK.out)
       replace HB := Aside0.mk (below_drew1 HB.out)
       refine start_ (n := 19) (S := fun w' => w'.cell? ⟨gb1621, 0, none⟩ = some (.int .i64 (wrap64 (2 + t1618))) ∧ w'.cell? ⟨gb1621, 1, none⟩ = some (u1622001) ∧ w'.cell? ⟨gb1621, 2, none⟩ = some (u1622002)) (ds := [18]) (bL 19 0) (by kernel_rfl) rfl rfl ⟨(blk_cell BK1621.out 0).trans rfl, (blk_cell BK1621.out 1).trans rfl, (blk_cell BK1621.out 2).trans rfl⟩ (fun hHeld => ?_); refine with_tabW spec_l03Net.tab20 spec_l03Net.bits20 (fun HT_ HW_ => ?_)
       generalize w66.drew = w73 at HO_1622001 HO_1622002 BK1617 BK1621 HI0 HK HB hHeld ⊢
       refine pq_ 0 78 (bL 19 1) HT_.out rfl rfl ?_
       refine pq_ 2 80 (bL 19 5) HT_.out rfl rfl ?_
       refine pq_ 3 81 (bL 19 13) HT_.out rfl rfl ?_
       refine pq_ 7 85 (bL 19 141) HT_.out rfl rfl ?_
       refine pq_ 10 88 (bL 19 1165) HT_.out rfl rfl ?_
       refine pq_ 13 91 (bL 19 9357) HT_.out rfl rfl ?_
       refine take_ (i := 1) (N := some 79) (v := ?_) (a' := ?_) (bL 19 9359) rfl rfl (take_ofW HT_.out HW_.out (by kernel_rfl)) (fun _ _ _ h => h) (Or.inl ⟨by rfl, ?_⟩) hHeld ?_ ?_; rotate_left; (rintro w' ⟨s0, s1, s2⟩; go_simp; with_reducible rfl); rotate_left; (exact put_q)
       refine take_ (i := 4) (N := some 82) (v := ?_) (a' := ?_) (bL 19 9375) rfl rfl (take_ofW HT_.out HW_.out (by kernel_rfl)) (fun _ _ _ h => h) (Or.inl ⟨by rfl, ?_⟩) hHeld ?_ ?_; rotate_left; (rintro w' ⟨s0, s1, s2⟩; go_simp; with_reducible rfl); rotate_left; (exact put_q)
       refine one_ (i := 5) (N := some 83) (bL 19 9407) rfl rfl (one_of HT_.out (by kernel_rfl)) (by decide) (fun K hK => ?_)
       refine goes_ Try.func115 (by kernel_rfl) rfl #[.pointer (some ⟨g, 0, none⟩), .int .i64 (wrap64 (2 + t1618))] (by rfl) rfl rfl mp_q ?_
       with_reducible refine (spec_l01Below.calls g s0_0 t1645 t1646 (wrap64 (2 + t1618)) t1647 t1648 t1649 w0 _ ?side1 ?side2 A68.out).mono ?_
       (case side1 => repeat (first | (with_reducible first | exact HI0.out | apply IsS144.alloc | apply IsS144.drewN | apply IsS144.drew | apply IsS144.set_1 | apply IsS144.set_2 | refine IsS144.far ?_ NB0_1617.out _ | refine IsS144.far ?_ NB0_1621.out _) | exact HI0.out))
       (case side2 => repeat (first | (with_reducible first | exact HB.out | apply below_alloc | apply pw_below_drewN | apply below_drew1 | refine below_set ?_ (IsS144.ge HI0.out) | refine below_set ?_ GE1617.out | refine below_set ?_ GE1621.out) | exact HB.out))
       rintro e w74 ⟨rfl, hi, hb, hk⟩
       refine ⟨_, rfl, ?_⟩
       replace HO_1622001 := Aside0.mk (Kd.R_mono (Kd.R_keep (IsS144.apart (show IsS144 w0 _ g s0_0 t1645 t1646 from by repeat (first | (with_reducible first | exact HI0.out | apply IsS144.alloc | apply IsS144.drewN | apply IsS144.drew | apply IsS144.set_1 | apply IsS144.set_2 | refine IsS144.far ?_ NB0_1617.out _ | refine IsS144.far ?_ NB0_1621.out _) | exact HI0.out)) (kR_q HO_1622001) (by decide)) hk (fun _ h => h.2)) (fun _ h => h.1))
       replace HO_1622002 := Aside0.mk (Kd.R_mono (Kd.R_keep (IsS144.apart (show IsS144 w0 _ g s0_0 t1645 t1646 from by repeat (first | (with_reducible first | exact HI0.out | apply IsS144.alloc | apply IsS144.drewN | apply IsS144.drew | apply IsS144.set_1 | apply IsS144.set_2 | refine IsS144.far ?_ NB0_1617.out _ | refine IsS144.far ?_ NB0_1621.out _) | exact HI0.out)) (kR_q HO_1622002) (by decide)) hk (fun _ h => h.2)) (fun _ h => h.1))
       replace BK1617 := Aside0.mk (KeepBut.blk hk (g' := gb1617) (o := .cells #[.int .i64 0, .slice none 0 0, .slice none 0 0] 31 (0, 0)) (bk_q BK1617) NB1617_0.out (by simp))
       replace BK1621 := Aside0.mk (KeepBut.blk hk (g' := gb1621) (o := .cells #[.int .i64 (wrap64 (2 + t1618)), u1622001, u1622002] 31 (0, 0)) (bk_q BK1621) NB1621_0.out (by simp))
       replace HK := Aside0.mk (KeepBut.trans (by repeat (first | (with_reducible first | exact HK.out | apply KeepBut.set_ | apply keep_drewN | apply keep_drew | apply keep_alloc | refine keep_far ?_ GW1617.out _ | refine keep_far ?_ GW1621.out _) | exact HK.out)) hk (.inl rfl))
       replace HB := Aside0.mk (hb)
       replace HI0 := Aside0.mk (hi)
       (try clear hb)
       (try clear hb2)
       (try clear hk)
       (try clear hi)
       refine hK.out _ _ ⟨(blk_cell BK1621.out 0).trans rfl, (blk_cell BK1621.out 1).trans rfl, (blk_cell BK1621.out 2).trans rfl⟩ (fun hHeld => ?_)
       clear hK K
       refine norm_ (a' := ?_) ?_ ?_; rotate_left; (show Act.put _ (some 83) _ = _; simp only [Act.put, List.setIfInBounds_toArray, List.set_cons_zero, List.set_cons_succ, i64_w, i32_w]; rfl)
       refine pq_ 6 84 (bL 19 9471) HT_.out rfl rfl ?_
       refine one_ (i := 8) (N := some 86) (bL 19 9727) rfl rfl (one_of HT_.out (by kernel_rfl)) (by decide) (fun K hK => ?_)
       refine goes_ Try.func115 (by kernel_rfl) rfl #[.pointer (some ⟨g, 0, none⟩), .int .i64 3] (by rfl) rfl rfl mp_q ?_
       with_reducible refine (spec_l01Below.calls g s0_0 t1648 t1649 3 t1650 t1651 t1652 w0 _ ?side1 ?side2 A69.out).mono ?_
       (case side1 => repeat (first | (with_reducible first | exact HI0.out | apply IsS144.alloc | apply IsS144.drewN | apply IsS144.drew | apply IsS144.set_1 | apply IsS144.set_2 | refine IsS144.far ?_ NB0_1617.out _ | refine IsS144.far ?_ NB0_1621.out _) | exact HI0.out))
       (case side2 => repeat (first | (with_reducible first | exact HB.out | apply below_alloc | apply pw_below_drewN | apply below_drew1 | refine below_set ?_ (IsS144.ge HI0.out) | refine below_set ?_ GE1617.out | refine below_set ?_ GE1621.out) | exact HB.out))
       rintro e w75 ⟨rfl, hi, hb, hk⟩
       refine ⟨_, rfl, ?_⟩
       replace HO_1622001 := Aside0.mk (Kd.R_mono (Kd.R_keep (IsS144.apart (show IsS144 w0 _ g s0_0 t1648 t1649 from by repeat (first | (with_reducible first | exact HI0.out | apply IsS144.alloc | apply IsS144.drewN | apply IsS144.drew | apply IsS144.set_1 | apply IsS144.set_2 | refine IsS144.far ?_ NB0_1617.out _ | refine IsS144.far ?_ NB0_1621.out _) | exact HI0.out)) (kR_q HO_1622001) (by decide)) hk (fun _ h => h.2)) (fun _ h => h.1))
       replace HO_1622002 := Aside0.mk (Kd.R_mono (Kd.R_keep (IsS144.apart (show IsS144 w0 _ g s0_0 t1648 t1649 from by repeat (first | (with_reducible first | exact HI0.out | apply IsS144.alloc | apply IsS144.drewN | apply IsS144.drew | apply IsS144.set_1 | apply IsS144.set_2 | refine IsS144.far ?_ NB0_1617.out _ | refine IsS144.far ?_ NB0_1621.out _) | exact HI0.out)) (kR_q HO_1622002) (by decide)) hk (fun _ h => h.2)) (fun _ h => h.1))
       replace BK1617 := Aside0.mk (KeepBut.blk hk (g' := gb1617) (o := .cells #[.int .i64 0, .slice none 0 0, .slice none 0 0] 31 (0, 0)) (bk_q BK1617) NB1617_0.out (by simp))
       replace BK1621 := Aside0.mk (KeepBut.blk hk (g' := gb1621) (o := .cells #[.int .i64 (wrap64 (2 + t1618)), u1622001, u1622002] 31 (0, 0)) (bk_q BK1621) NB1621_0.out (by simp))
       replace HK := Aside0.mk (KeepBut.trans (by repeat (first | (with_reducible first | exact HK.out | apply KeepBut.set_ | apply keep_drewN | apply keep_drew | apply keep_alloc | refine keep_far ?_ GW1617.out _ | refine keep_far ?_ GW1621.out _) | exact HK.out)) hk (.inl rfl))
       replace HB := Aside0.mk (hb)
       replace HI0 := Aside0.mk (hi)
       (try clear hb)
       (try clear hb2)
       (try clear hk)
       (try clear hi)
       refine hK.out _ _ ⟨(blk_cell BK1621.out 0).trans rfl, (blk_cell BK1621.out 1).trans rfl, (blk_cell BK1621.out 2).trans rfl⟩ (fun hHeld => ?_)
       clear hK K
       refine norm_ (a' := ?_) ?_ ?_; rotate_left; (show Act.put _ (some 86) _ = _; simp only [Act.put, List.setIfInBounds_toArray, List.set_cons_zero, List.set_cons_succ, i64_w, i32_w]; rfl)
       refine pq_ 9 87 (bL 19 10239) HT_.out rfl rfl ?_
       refine one_ (i := 11) (N := some 89) (bL 19 12287) rfl rfl (one_of HT_.out (by kernel_rfl)) (by decide) (fun K hK => ?_)
       refine goes_ Try.func115 (by kernel_rfl) rfl #[.pointer (some ⟨g, 0, none⟩), .int .i64 5] (by rfl) rfl rfl mp_q ?_
       with_reducible refine (spec_l01Below.calls g s0_0 t1651 t1652 5 t1653 t1654 t1655 w0 _ ?side1 ?side2 A70.out).mono ?_
       (case side1 => repeat (first | (with_reducible first | exact HI0.out | apply IsS144.alloc | apply IsS144.drewN | apply IsS144.drew | apply IsS144.set_1 | apply IsS144.set_2 | refine IsS144.far ?_ NB0_1617.out _ | refine IsS144.far ?_ NB0_1621.out _) | exact HI0.out))
       (case side2 => repeat (first | (with_reducible first | exact HB.out | apply below_alloc | apply pw_below_drewN | apply below_drew1 | refine below_set ?_ (IsS144.ge HI0.out) | refine below_set ?_ GE1617.out | refine below_set ?_ GE1621.out) | exact HB.out))
       rintro e w76 ⟨rfl, hi, hb, hk⟩
       refine ⟨_, rfl, ?_⟩
       replace HO_1622001 := Aside0.mk (Kd.R_mono (Kd.R_keep (IsS144.apart (show IsS144 w0 _ g s0_0 t1651 t1652 from by repeat (first | (with_reducible first | exact HI0.out | apply IsS144.alloc | apply IsS144.drewN | apply IsS144.drew | apply IsS144.set_1 | apply IsS144.set_2 | refine IsS144.far ?_ NB0_1617.out _ | refine IsS144.far ?_ NB0_1621.out _) | exact HI0.out)) (kR_q HO_1622001) (by decide)) hk (fun _ h => h.2)) (fun _ h => h.1))
       replace HO_1622002 := Aside0.mk (Kd.R_mono (Kd.R_keep (IsS144.apart (show IsS144 w0 _ g s0_0 t1651 t1652 from by repeat (first | (with_reducible first | exact HI0.out | apply IsS144.alloc | apply IsS144.drewN | apply IsS144.drew | apply IsS144.set_1 | apply IsS144.set_2 | refine IsS144.far ?_ NB0_1617.out _ | refine IsS144.far ?_ NB0_1621.out _) | exact HI0.out)) (kR_q HO_1622002) (by decide)) hk (fun _ h => h.2)) (fun _ h => h.1))
       replace BK1617 := Aside0.mk (KeepBut.blk hk (g' := gb1617) (o := .cells #[.int .i64 0, .slice none 0 0, .slice none 0 0] 31 (0, 0)) (bk_q BK1617) NB1617_0.out (by simp))
       replace BK1621 := Aside0.mk (KeepBut.blk hk (g' := gb1621) (o := .cells #[.int .i64 (wrap64 (2 + t1618)), u1622001, u1622002] 31 (0, 0)) (bk_q BK1621) NB1621_0.out (by simp))
       replace HK := Aside0.mk (KeepBut.trans (by repeat (first | (with_reducible first | exact HK.out | apply KeepBut.set_ | apply keep_drewN | apply keep_drew | apply keep_alloc | refine keep_far ?_ GW1617.out _ | refine keep_far ?_ GW1621.out _) | exact HK.out)) hk (.inl rfl))
       replace HB := Aside0.mk (hb)
       replace HI0 := Aside0.mk (hi)
       (try clear hb)
       (try clear hb2)
       (try clear hk)
       (try clear hi)
       refine hK.out _ _ ⟨(blk_cell BK1621.out 0).trans rfl, (blk_cell BK1621.out 1).trans rfl, (blk_cell BK1621.out 2).trans rfl⟩ (fun hHeld => ?_)
       clear hK K
       refine norm_ (a' := ?_) ?_ ?_; rotate_left; (show Act.put _ (some 89) _ = _; simp only [Act.put, List.setIfInBounds_toArray, List.set_cons_zero, List.set_cons_succ, i64_w, i32_w]; rfl)
       refine pq_ 12 90 (bL 19 16383) HT_.out rfl rfl ?_
       refine one_ (i := 14) (N := some 92) (bL 19 32767) rfl rfl (one_of HT_.out (by kernel_rfl)) (by decide) (fun K hK => ?_)
       refine goes_ Try.func121 (by kernel_rfl) rfl #[.pointer (some ⟨g, 0, none⟩), .int .i64 2] (by rfl) rfl rfl mp_q ?_
       with_reducible refine (spec_l01Once.calls g s0_0 t1654 t1655 2 t1656 t1657 t1658 w0 _ ?side1 ?side2 A71.out).mono ?_
       (case side1 => repeat (first | (with_reducible first | exact HI0.out | apply IsS144.alloc | apply IsS144.drewN | apply IsS144.drew | apply IsS144.set_1 | apply IsS144.set_2 | refine IsS144.far ?_ NB0_1617.out _ | refine IsS144.far ?_ NB0_1621.out _) | exact HI0.out))
       (case side2 => repeat (first | (with_reducible first | exact HB.out | apply below_alloc | apply pw_below_drewN | apply below_drew1 | refine below_set ?_ (IsS144.ge HI0.out) | refine below_set ?_ GE1617.out | refine below_set ?_ GE1621.out) | exact HB.out))
       rintro e w77 ⟨rfl, hi, hb, hk⟩
       refine ⟨_, rfl, ?_⟩
       replace HO_1622001 := Aside0.mk (Kd.R_mono (Kd.R_keep (IsS144.apart (show IsS144 w0 _ g s0_0 t1654 t1655 from by repeat (first | (with_reducible first | exact HI0.out | apply IsS144.alloc | apply IsS144.drewN | apply IsS144.drew | apply IsS144.set_1 | apply IsS144.set_2 | refine IsS144.far ?_ NB0_1617.out _ | refine IsS144.far ?_ NB0_1621.out _) | exact HI0.out)) (kR_q HO_1622001) (by decide)) hk (fun _ h => h.2)) (fun _ h => h.1))
       replace HO_1622002 := Aside0.mk (Kd.R_mono (Kd.R_keep (IsS144.apart (show IsS144 w0 _ g s0_0 t1654 t1655 from by repeat (first | (with_reducible first | exact HI0.out | apply IsS144.alloc | apply IsS144.drewN | apply IsS144.drew | apply IsS144.set_1 | apply IsS144.set_2 | refine IsS144.far ?_ NB0_1617.out _ | refine IsS144.far ?_ NB0_1621.out _) | exact HI0.out)) (kR_q HO_1622002) (by decide)) hk (fun _ h => h.2)) (fun _ h => h.1))
       replace BK1617 := Aside0.mk (KeepBut.blk hk (g' := gb1617) (o := .cells #[.int .i64 0, .slice none 0 0, .slice none 0 0] 31 (0, 0)) (bk_q BK1617) NB1617_0.out (by simp))
       replace BK1621 := Aside0.mk (KeepBut.blk hk (g' := gb1621) (o := .cells #[.int .i64 (wrap64 (2 + t1618)), u1622001, u1622002] 31 (0, 0)) (bk_q BK1621) NB1621_0.out (by simp))
       replace HK := Aside0.mk (KeepBut.trans (by repeat (first | (with_reducible first | exact HK.out | apply KeepBut.set_ | apply keep_drewN | apply keep_drew | apply keep_alloc | refine keep_far ?_ GW1617.out _ | refine keep_far ?_ GW1621.out _) | exact HK.out)) hk (.inl rfl))
       replace HB := Aside0.mk (hb)
       replace HI0 := Aside0.mk (hi)
       (try clear hb)
       (try clear hb2)
       (try clear hk)
       (try clear hi)
       obtain ⟨Ao78, co78, eo78⟩ := Kd.R_slice HO_1622002.out
       (first | subst eo78 | (injection eo78 with f1_ f2_ f3_; have f4_ := f1_.symm; have f5_ := f3_.symm; clear f1_ f2_ f3_; subst f4_; subst f5_))
       refine hK.out _ _ ⟨(blk_cell BK1621.out 0).trans rfl, (blk_cell BK1621.out 1).trans rfl, (blk_cell BK1621.out 2).trans rfl⟩ (fun hHeld => ?_)
       clear hK K
       refine norm_ (a' := ?_) ?_ ?_; rotate_left; (show Act.put _ (some 92) _ = _; simp only [Act.put, List.setIfInBounds_toArray, List.set_cons_zero, List.set_cons_succ, i64_w, i32_w]; rfl)
       refine pq_ 15 93 (bL 19 65535) HT_.out rfl rfl ?_
       refine one_ (i := 16) (N := some 94) (bL 19 131071) rfl rfl (one_of HT_.out (by kernel_rfl)) (by decide) (fun K hK => ?_)
       refine goes_ Try.func146 (by kernel_rfl) rfl #[.slice Ao78 x1622002_2.length co78, .agg #[.int .i64 (wrap64 (1 + t1647)), .int .i64 (wrap64 (1 + t1650)), .int .i64 (wrap64 (1 + t1653)), .bool t1656]] (by rfl) rfl rfl mp_q ?_
       with_reducible refine (spec_l03PutThing.calls k2 _ _ x1622002_2 (wrap64 (1 + t1647)) (wrap64 (1 + t1650)) (wrap64 (1 + t1653)) t1656 t1659 _ ?side1 ?side2 A72.out).mono ?_
       (case side1 => repeat (first | exact (Kd.R_reads' HO_1622002.out).2.2 | (with_reducible refine Kd.C_alloc ?_ _) | (with_reducible refine Kd.C_drewN ?_ _) | (with_reducible refine Kd.C_drew ?_)))
       (case side2 => exact (Kd.R_reads' HO_1622002.out).2.1)
       rintro e w79 ⟨v1660, rfl, ho0, hb⟩
       refine ⟨_, rfl, ?_⟩
       replace HO_1622001 := Aside0.mk (Kd.R_below (kR_q HO_1622001) hb)
       have HO1661 := Aside0.mk (Kd.R_lower (Kd.R_new' ho0 (Kd.R_lt (kR_q HO_1622002))) (keep_size (w := w) (g := g) (row := none) (by repeat (first | (with_reducible first | exact HK.out | apply KeepBut.set_ | apply keep_drewN | apply keep_drew | apply keep_alloc | refine keep_far ?_ GW1617.out _ | refine keep_far ?_ GW1621.out _) | exact HK.out))))
       replace HO_1622002 := Aside0.mk (Kd.R_elder' (kR_q HO_1622002) (Kd.R_base ho0) hb)
       replace BK1617 := Aside0.mk (blk_below (g := gb1617) (bk_q BK1617) hb)
       replace BK1621 := Aside0.mk (blk_below (g := gb1621) (bk_q BK1621) hb)
       replace HK := Aside0.mk (KeepBut.trans (by repeat (first | (with_reducible first | exact HK.out | apply KeepBut.set_ | apply keep_drewN | apply keep_drew | apply keep_alloc | refine keep_far ?_ GW1617.out _ | refine keep_far ?_ GW1621.out _) | exact HK.out)) (KeepBut.of_below hb g none) (.inl rfl))
       replace HB := Aside0.mk (below_step (by repeat (first | (with_reducible first | exact HB.out | apply below_alloc | apply pw_below_drewN | apply below_drew1 | refine below_set ?_ (IsS144.ge HI0.out) | refine below_set ?_ GE1617.out | refine below_set ?_ GE1621.out) | exact HB.out)) hb)
       replace HI0 := Aside0.mk (IsS144.below (by repeat (first | (with_reducible first | exact HI0.out | apply IsS144.alloc | apply IsS144.drewN | apply IsS144.drew | apply IsS144.set_1 | apply IsS144.set_2 | refine IsS144.far ?_ NB0_1617.out _ | refine IsS144.far ?_ NB0_1621.out _) | exact HI0.out)) hb)
       (try clear hb)
       (try clear hb2)
       (try clear hk)
       (try clear hi)
       (try clear ho0)
       obtain ⟨Ao80, co80, eo80⟩ := Kd.R_slice HO1661.out
       (first | subst eo80 | (injection eo80 with f1_ f2_ f3_; have f4_ := f1_.symm; have f5_ := f3_.symm; clear f1_ f2_ f3_; subst f4_; subst f5_))
       refine hK.out _ _ ⟨(blk_cell BK1621.out 0).trans rfl, (blk_cell BK1621.out 1).trans rfl, (blk_cell BK1621.out 2).trans rfl⟩ (fun hHeld => ?_)
       clear hK K
       refine norm_ (a' := ?_) ?_ ?_; rotate_left; (show Act.put _ (some 94) _ = _; simp only [Act.put, List.setIfInBounds_toArray, List.set_cons_zero, List.set_cons_succ, i64_w, i32_w]; rfl)
       refine pq_ 17 95 (bL 19 262143) HT_.out rfl rfl ?_
       refine last_ (i := 18) (N := none) (bL 19 524287) rfl rfl (one_of HT_.out (by kernel_rfl)) (by decide) (fun K hK => ?_)
       have hs81 : w79.cell? ⟨gb1621, 2, none⟩ = some (.slice Ao78 x1622002_2.length co78) := (blk_cell BK1621.out 2).trans rfl
       have hfs81 := blk_frozen BK1621.out 2
       have hns81_0 := NB1617_1621.out
       have hms81_0 := NB1621_1617.out
       refine skip_ (w1 := ?_) (by rfl) rfl ?_ ?_
       rotate_left
       ·go_simp
        rfl
       refine hK.out _ _ ?_
       clear hK K
       refine done_ (done_of HT_.out (by kernel_rfl)) ?_
       try go_wp2
       go_roundg k2
       case measure => have := HK1.out; have := HK2.out; omega
       case rel => exact ⟨(wrap64 (x8_2 + 1)), (t1657), (t1658), (t1659), (.slice Ao80 t1659.length co80), (by first | rfl | (simp; done) | (simp [*]; done)), H', ⟨by have := HK1.out; have := HK2.out; omega⟩, ⟨by (with_reducible repeat (first | apply Kd.R_alloc | apply Kd.R_drewN | apply Kd.R_drew)); exact Kd.R_mono (Kd.R_far (p := ⟨gb1621, 2, none⟩) (Kd.R_types HO_1622001.out BK1621.out (by decide)) (fun _ hk => hk.2) (.slice Ao80 t1659.length co80)) (fun _ hk => trivial)⟩, ⟨by (with_reducible repeat (first | apply Kd.R_alloc | apply Kd.R_drewN | apply Kd.R_drew)); exact Kd.R_mono (Kd.R_far (p := ⟨gb1621, 2, none⟩) (Kd.R_types HO1661.out BK1621.out (by decide)) (fun _ hk => hk.2) (.slice Ao80 t1659.length co80)) (fun _ hk => trivial)⟩, ⟨by refine bz_ ?_; refine blk_far ?_ NB1617_1621.out _; refine bz_ ?_; exact BK1617.out⟩, ⟨by refine bz_ ?_; refine blk_put (cs := #[.int .i64 (wrap64 (2 + t1618)), u1622001, .slice Ao78 x1622002_2.length co78]) ?_ 2 _ rfl; refine bz_ ?_; exact BK1621.out⟩, ⟨by repeat (first | (with_reducible first | exact HI0.out | apply IsS144.alloc | apply IsS144.drewN | apply IsS144.drew | apply IsS144.set_1 | apply IsS144.set_2 | refine IsS144.far ?_ NB0_1617.out _ | refine IsS144.far ?_ NB0_1621.out _) | exact HI0.out)⟩, ⟨by repeat (first | (with_reducible first | exact HK.out | apply KeepBut.set_ | apply keep_drewN | apply keep_drew | apply keep_alloc | refine keep_far ?_ GW1617.out _ | refine keep_far ?_ GW1621.out _) | exact HK.out)⟩, ⟨by repeat (first | (with_reducible first | exact HB.out | apply below_alloc | apply pw_below_drewN | apply below_drew1 | refine below_set ?_ (IsS144.ge HI0.out) | refine below_set ?_ GE1617.out | refine below_set ?_ GE1621.out) | exact HB.out)⟩⟩
      ·rw [if_neg c67] at H
       have c67b0 : decide (x8_2 < t1644) = false := decide_eq_false c67
       clear c67
       (first | rw [c67b0] | rw [c67b1] | (simp only [i64_w, i32_w]; first | rw [c67b0] | rw [c67b1]) | skip)
       simp only [Option.some.injEq, Prod.mk.injEq] at H
       obtain ⟨rfl, rfl, rfl, rfl, rfl⟩ := H
       have hnb82 := NB1621_1617.out
       have hnc82 := NB1617_1621.out
       have hnb83 := NB1621_0.out
       have hnc83 := NB0_1621.out
       obtain ⟨hcz84_0, hcz84_1, hcz84_2⟩ := cz3_ BK1621
       obtain ⟨hfz84_0, hfz84_1, hfz84_2⟩ := fz3_ BK1621
       have hnb85 := NB1617_0.out
       have hnc85 := NB0_1617.out
       obtain ⟨hcz86_0, hcz86_1, hcz86_2⟩ := cz3_ BK1617
       obtain ⟨hfz86_0, hfz86_1, hfz86_2⟩ := fz3_ BK1617
       obtain ⟨Ao87, co87, eo87⟩ := Kd.R_slice HO_1622001.out
       subst eo87
       obtain ⟨Ao88, co88, eo88⟩ := Kd.R_slice HO_1622002.out
       subst eo88
       go_wp2
       refine bodyPost_ret (results_cell_row rfl _ _ gb1617 31 #[.int .i64 (wrap64 (2 + t1618)), .slice Ao87 x1622001_1.length co87, .slice Ao88 x1622002_2.length co88] (0, 0) _ rfl (by refine bz_ ?_; refine blk_put (cs := #[.int .i64 (wrap64 (2 + t1618)), .slice Ao87 x1622001_1.length co87, .slice none 0 0]) ?_ 2 _ rfl; refine bz_ ?_; refine blk_put (cs := #[.int .i64 (wrap64 (2 + t1618)), .slice none 0 0, .slice none 0 0]) ?_ 1 _ rfl; refine bz_ ?_; refine blk_put (cs := #[.int .i64 0, .slice none 0 0, .slice none 0 0]) ?_ 0 _ rfl; refine bz_ ?_; exact BK1617.out) Try.underlying31 rfl (by kernel_rfl)) rfl ?_
       exact ⟨_, _, er_q, by (with_reducible repeat (first | apply Kd.R_alloc | apply Kd.R_drewN | apply Kd.R_drew)); exact Kd.R_mono (Kd.R_far (p := ⟨gb1617, 2, none⟩) (Kd.R_far (p := ⟨gb1617, 1, none⟩) (Kd.R_far (p := ⟨gb1617, 0, none⟩) (Kd.R_types HO_1622001.out BK1617.out (by decide)) (fun _ hk => hk.2) (.int .i64 (wrap64 (2 + t1618)))) (fun _ hk => hk.2) (.slice Ao87 x1622001_1.length co87)) (fun _ hk => hk.2) (.slice Ao88 x1622002_2.length co88)) (fun _ hk => trivial), by (with_reducible repeat (first | apply Kd.R_alloc | apply Kd.R_drewN | apply Kd.R_drew)); exact Kd.R_mono (Kd.R_far (p := ⟨gb1617, 2, none⟩) (Kd.R_far (p := ⟨gb1617, 1, none⟩) (Kd.R_far (p := ⟨gb1617, 0, none⟩) (Kd.R_types HO_1622002.out BK1617.out (by decide)) (fun _ hk => hk.2) (.int .i64 (wrap64 (2 + t1618)))) (fun _ hk => hk.2) (.slice Ao87 x1622001_1.length co87)) (fun _ hk => hk.2) (.slice Ao88 x1622002_2.length co88)) (fun _ hk => trivial), by repeat (first | (with_reducible first | exact HI0.out | apply IsS144.alloc | apply IsS144.drewN | apply IsS144.drew | apply IsS144.set_1 | apply IsS144.set_2 | refine IsS144.far ?_ NB0_1617.out _ | refine IsS144.far ?_ NB0_1621.out _) | exact HI0.out), by repeat (first | (with_reducible first | exact HB.out | apply below_alloc | apply pw_below_drewN | apply below_drew1 | refine below_set ?_ (IsS144.ge HI0.out) | refine below_set ?_ GE1617.out | refine below_set ?_ GE1621.out) | exact HB.out), by repeat (first | (with_reducible first | exact HK.out | apply KeepBut.set_ | apply keep_drewN | apply keep_drew | apply keep_alloc | refine keep_far ?_ GW1617.out _ | refine keep_far ?_ GW1621.out _) | exact HK.out)⟩

end Go.Proofs.Ythjmdiggglkeaaa.Q
