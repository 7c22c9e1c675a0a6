import Derived.Test.YthjmdiggglkeaaaXSelfOkQspecl01In
import Derived.Test.YthjmdiggglkeaaaXSelfOkQspecl03Thing
/- A Go function as a Lean function, and its contract: for every input the Go code comes to what the Lean function tells. -/





namespace Go.Proofs.Ythjmdiggglkeaaa.Q
open Go.RowKit Go.Proofs.YthjmdiggglkeaaaW.PrintWords Go.Proofs.YthjmdiggglkeaaaW.PrintLast Go.Proofs.YthjmdiggglkeaaaW.PrintMore
attribute [local go_sem] max2_int min2_int max_two min_two max_three min_three max_four min_four   -- for this text's walks alone
set_option linter.unusedVariables false
set_option linter.unusedSimpArgs false

/-! ### spec_NetOk: function 16 -/
mutual
def spec_NetOk.j0 : Nat → Bool → Int → List (S93) → List (S102) → Option (Bool)
 | 0, _, _, _, _ => none
 | k + 1, x21, x115000, x115001, x115002 => if x21 = true then (some false) else (spec_NetOk.l0 k 0 x115000 x115001 x115002)
def spec_NetOk.l0 : Nat → Int → Int → List (S93) → List (S102) → Option (Bool)
 | 0, _, _, _, _ => none
 | k + 1, x3, x115000, x115001, x115002 => if x3 < (x115001.length : Int) then (if 0 ≤ x3 then ((spec_LinkOk.f x115000 ((rd_T93 x115001 x3).f0) ((rd_T93 x115001 x3).f1) ((rd_T93 x115001 x3).f2) ((rd_T93 x115001 x3).f3)).bind fun t117 => (if t117 = true then (if x3 > 0 then (if 0 ≤ (wrap64 (x3 - 1)) then (if (wrap64 (x3 - 1)) < (x115001.length : Int) then ((spec_l03Ahead.f ((rd_T93 x115001 (wrap64 (x3 - 1))).f0) ((rd_T93 x115001 (wrap64 (x3 - 1))).f1) ((rd_T93 x115001 (wrap64 (x3 - 1))).f2) ((rd_T93 x115001 (wrap64 (x3 - 1))).f3) ((rd_T93 x115001 x3).f0) ((rd_T93 x115001 x3).f1) ((rd_T93 x115001 x3).f2) ((rd_T93 x115001 x3).f3)).bind fun t119 => (if t119 = true then (spec_NetOk.l0 k (wrap64 (x3 + 1)) x115000 x115001 x115002) else (some false))) else (none)) else (none)) else (spec_NetOk.l0 k (wrap64 (x3 + 1)) x115000 x115001 x115002)) else (some false))) else (none)) else (spec_NetOk.l1 k 0 x115000 x115001 x115002)
def spec_NetOk.l1 : Nat → Int → Int → List (S93) → List (S102) → Option (Bool)
 | 0, _, _, _, _ => none
 | k + 1, x4, x115000, x115001, x115002 => if x4 < (x115002.length : Int) then (if 0 ≤ x4 then ((spec_l01In.f ((rd_T102 x115002 x4).f0) 1 x115000).bind fun t122 => (if t122 = true then ((spec_l01In.f ((rd_T102 x115002 x4).f1) 1 9).bind fun t123 => (if t123 = true then ((spec_l01In.f ((rd_T102 x115002 x4).f2) 1 1000).bind fun t124 => (if t124 = true then (if x4 > 0 then (if 0 ≤ (wrap64 (x4 - 1)) then (if (wrap64 (x4 - 1)) < (x115002.length : Int) then ((spec_l03Thing.f ((rd_T102 x115002 (wrap64 (x4 - 1))).f0) ((rd_T102 x115002 (wrap64 (x4 - 1))).f1) ((rd_T102 x115002 (wrap64 (x4 - 1))).f2) ((rd_T102 x115002 (wrap64 (x4 - 1))).f3) ((rd_T102 x115002 x4).f0) ((rd_T102 x115002 x4).f1) ((rd_T102 x115002 x4).f2) ((rd_T102 x115002 x4).f3)).bind fun t126 => (if t126 = true then (spec_NetOk.l1 k (wrap64 (x4 + 1)) x115000 x115001 x115002) else (some false))) else (none)) else (none)) else (spec_NetOk.l1 k (wrap64 (x4 + 1)) x115000 x115001 x115002)) else (some false))) else (some false))) else (some false))) else (none)) else (some true)
end
def spec_NetOk.f (k : Nat) (a0_0 : Int) (l0_1 : List (S93)) (l0_2 : List (S102)) : Option (Bool) := (spec_l01In.f a0_0 1 6).bind fun t115 => (if t115 = true then (if (l0_1.length : Int) > 12 then (spec_NetOk.j0 k true a0_0 l0_1 l0_2) else (spec_NetOk.j0 k (decide ((l0_2.length : Int) > 4)) a0_0 l0_1 l0_2)) else (spec_NetOk.j0 k true a0_0 l0_1 l0_2))
theorem spec_NetOk.mono_l : ∀ k, (∀ y0 y1 y2 y3, LeO (spec_NetOk.j0 k y0 y1 y2 y3) (spec_NetOk.j0 (k + 1) y0 y1 y2 y3)) ∧ (∀ y0 y1 y2 y3, LeO (spec_NetOk.l0 k y0 y1 y2 y3) (spec_NetOk.l0 (k + 1) y0 y1 y2 y3)) ∧ (∀ y0 y1 y2 y3, LeO (spec_NetOk.l1 k y0 y1 y2 y3) (spec_NetOk.l1 (k + 1) y0 y1 y2 y3))
 | 0 => ⟨fun _ _ _ _ r h => by simp [spec_NetOk.j0] at h, fun _ _ _ _ r h => by simp [spec_NetOk.l0] at h, fun _ _ _ _ r h => by simp [spec_NetOk.l1] at h⟩
 | k + 1 => by
  obtain ⟨ih0, ih1, ih2⟩ := spec_NetOk.mono_l k
  refine ⟨?_, ?_, ?_⟩
  ·intro y0 y1 y2 y3
   unfold spec_NetOk.j0
   repeat' first
   | (with_reducible exact ih0 _ _ _ _)
   | (with_reducible exact ih1 _ _ _ _)
   | (with_reducible exact ih2 _ _ _ _)
   | (with_reducible exact LeO.refl _)
   | (with_reducible exact LeO.none _)
   | (with_reducible refine LeO.ite ?_ ?_)
   | (with_reducible refine LeO.bind ?_ (fun _ => ?_))
   | exact ih0 _ _ _ _
   | exact ih1 _ _ _ _
   | exact ih2 _ _ _ _
   | exact LeO.none _
   | refine LeO.ite ?_ ?_
   | refine LeO.bind ?_ (fun _ => ?_)
  ·intro y0 y1 y2 y3
   unfold spec_NetOk.l0
   repeat' first
   | (with_reducible exact ih0 _ _ _ _)
   | (with_reducible exact ih1 _ _ _ _)
   | (with_reducible exact ih2 _ _ _ _)
   | (with_reducible exact LeO.refl _)
   | (with_reducible exact LeO.none _)
   | (with_reducible refine LeO.ite ?_ ?_)
   | (with_reducible refine LeO.bind ?_ (fun _ => ?_))
   | exact ih0 _ _ _ _
   | exact ih1 _ _ _ _
   | exact ih2 _ _ _ _
   | exact LeO.none _
   | refine LeO.ite ?_ ?_
   | refine LeO.bind ?_ (fun _ => ?_)
  ·intro y0 y1 y2 y3
   unfold spec_NetOk.l1
   repeat' first
   | (with_reducible exact ih0 _ _ _ _)
   | (with_reducible exact ih1 _ _ _ _)
   | (with_reducible exact ih2 _ _ _ _)
   | (with_reducible exact LeO.refl _)
   | (with_reducible exact LeO.none _)
   | (with_reducible refine LeO.ite ?_ ?_)
   | (with_reducible refine LeO.bind ?_ (fun _ => ?_))
   | exact ih0 _ _ _ _
   | exact ih1 _ _ _ _
   | exact ih2 _ _ _ _
   | exact LeO.none _
   | refine LeO.ite ?_ ?_
   | refine LeO.bind ?_ (fun _ => ?_)
theorem spec_NetOk.mono : ∀ a0 a1 a2 k, LeO (spec_NetOk.f k a0 a1 a2) (spec_NetOk.f (k + 1) a0 a1 a2) := by
 intro a0 a1 a2 k
 obtain ⟨ih0, ih1, ih2⟩ := spec_NetOk.mono_l k
 unfold spec_NetOk.f
 repeat' first
   | (with_reducible exact ih0 _ _ _ _)
   | (with_reducible exact ih1 _ _ _ _)
   | (with_reducible exact ih2 _ _ _ _)
   | (with_reducible exact LeO.refl _)
   | (with_reducible exact LeO.none _)
   | (with_reducible refine LeO.ite ?_ ?_)
   | (with_reducible refine LeO.bind ?_ (fun _ => ?_))
   | exact ih0 _ _ _ _
   | exact ih1 _ _ _ _
   | exact ih2 _ _ _ _
   | exact LeO.none _
   | refine LeO.ite ?_ ?_
   | refine LeO.bind ?_ (fun _ => ?_)
def spec_NetOk.T6 : Bool × List (List Nat × List Nat) := (true, [([], []), ([0], [0]), ([], []), ([2], [2]), ([], []), ([3, 4], [3, 4]), ([5], [5]), ([1, 6], [1, 6]), ([7], [7]), ([8, 7], [8]), ([9], [9]), ([10, 9], [9, 10]), ([11, 9, 9], [9, 11]), ([12], [12]), ([13, 12], [12, 13]), ([12], [12]), ([15, 12], [12, 15]), ([14, 16, 12], [12, 14, 16]), ([17, 12], [12, 17]), ([12], [12]), ([19, 12], [12, 19]), ([12], [12]), ([20, 21, 12], [12, 20, 21]), ([22, 12], [12, 22]), ([18, 23, 12, 12], [12, 18, 23]), ([24, 12], [12, 24]), ([12, 25, 9], [9, 12, 25]), ([9, 26], [9, 26])])
def spec_NetOk.B6 : List Nat := [0, 1, 0, 4, 0, 28, 60, 127, 255, 511, 1023, 2047, 4095, 8191, 16383, 8191, 40959, 131071, 262143, 8191, 532479, 8191, 3678207, 7872511, 16777215, 33554431, 67108863, 134217727]
theorem spec_NetOk.tab6 : rtab .any (opsOf Try.f16 6) = spec_NetOk.T6 := by kernel_rfl
theorem spec_NetOk.bits6 : waitsOk spec_NetOk.T6.2 spec_NetOk.B6 = true := by kernel_rfl
def spec_NetOk.T12 : Bool × List (List Nat × List Nat) := (true, [([], []), ([0], [0]), ([], []), ([2], [2]), ([1, 3], [1, 3]), ([4], [4]), ([5, 4], [5]), ([6], [6]), ([7, 6], [6, 7]), ([8, 6, 6], [6, 8]), ([9, 6], [6, 9]), ([6, 10], [6, 10]), ([11, 9], [11]), ([12], [12]), ([13, 12], [12, 13]), ([14, 12, 12], [12, 14]), ([15, 12], [12, 15]), ([12, 16], [12, 16]), ([17, 15], [17]), ([18], [18]), ([19, 18], [18, 19]), ([20, 18, 18], [18, 20]), ([21], [21]), ([22, 21], [21, 22]), ([21], [21]), ([24, 21], [21, 24]), ([23, 25, 21], [21, 23, 25]), ([26, 21], [21, 26]), ([21], [21]), ([27, 28, 21, 21], [21, 27, 28]), ([29, 21], [21, 29]), ([21, 30, 18], [18, 21, 30]), ([18, 31], [18, 31])])
def spec_NetOk.B12 : List Nat := [0, 1, 0, 4, 15, 31, 63, 127, 255, 511, 1023, 2047, 4095, 8191, 16383, 32767, 65535, 131071, 262143, 524287, 1048575, 2097151, 4194303, 8388607, 4194303, 20971519, 67108863, 134217727, 4194303, 536870911, 1073741823, 2147483647, 4294967295]
theorem spec_NetOk.tab12 : rtab .any (opsOf Try.f16 12) = spec_NetOk.T12 := by kernel_rfl
theorem spec_NetOk.bits12 : waitsOk spec_NetOk.T12.2 spec_NetOk.B12 = true := by kernel_rfl
set_option maxHeartbeats 8000000 in
set_option maxRecDepth 100000 in
theorem spec_NetOk.calls (k : Nat) (a0_0 : Int) (A0_1 : Option Addr) (c0_1 : Nat) (l0_1 : List (S93)) (A0_2 : Option Addr) (c0_2 : Nat) (l0_2 : List (S102)) (r : Bool) (w : World) (hr0_1 : Kd.C k93 w A0_1 l0_1.length l0_1) (hc0_1 : l0_1.length ≤ c0_1) (hr0_2 : Kd.C k102 w A0_2 l0_2.length l0_2) (hc0_2 : l0_2.length ≤ c0_2) (h : spec_NetOk.f k a0_0 l0_1 l0_2 = some r) :
  Calls Try.prog 16 #[.agg #[.int .i64 a0_0, .slice A0_1 l0_1.length c0_1, .slice A0_2 l0_2.length c0_2]] w fun e w' => e = .returned (.bool r) ∧ Below w.heap.size w w' := by
 have hu31 := Try.underlying31
 have hu93 := Try.underlying93
 have hu102 := Try.underlying102
 have HR0_1 := Aside0.mk hr0_1
 have HC0_1 := Aside0.mk hc0_1
 clear hr0_1 hc0_1
 have HR0_2 := Aside0.mk hr0_2
 have HC0_2 := Aside0.mk hc0_2
 clear hr0_2 hc0_2
 have HB := Aside0.mk (Below.refl w.heap.size w)
 have H : ((spec_l01In.f a0_0 1 6).bind fun t115 => (if t115 = true then (if (l0_1.length : Int) > 12 then (spec_NetOk.j0 k true a0_0 l0_1 l0_2) else (spec_NetOk.j0 k (decide ((l0_2.length : Int) > 4)) a0_0 l0_1 l0_2)) else (spec_NetOk.j0 k true a0_0 l0_1 l0_2))) = some r := h
 clear h
 have HC2 := Aside0.mk H
 clear H
 go_enter Try.func16, Try.ntmps16
 go_upto_region 1 with (first | ((with_reducible refine gate_dst (N := 1) rfl ?_); (try (refine gate_guard (by rfl) ?_; dsimp only)); refine box_q 1 #[.int .i64 a0_0, .slice A0_1 l0_1.length c0_1, .slice A0_2 l0_2.length c0_2] 31 ?_; intro gb114 hg w3 hbox hb; have BK114 := Aside0.mk (hbox); have GW114 := Aside0.mk ((by rw [hg]; exact (below_size (bw_q HB)) : w.heap.size ≤ gb114)); have GE114 := Aside0.mk ((by rw [hg]; exact (below_size (bw_q HB)) : w.heap.size ≤ gb114)); replace HB := Aside0.mk (below_step (bw_q HB) hb); clear hb hbox hg))
 (try simp only [Act.put, List.setIfInBounds_toArray, List.set_cons_zero, List.set_cons_succ])
 go_cut [21] (fun v21 wc => ∃ (kq : Nat) (x21_1 : Bool), v21 = .bool x21_1 ∧ Aside0 (spec_NetOk.j0 kq x21_1 a0_0 l0_1 l0_2 = some r) ∧ Aside0 (kq ≤ k) ∧ Aside0 (wc.heap[gb114]? = some (.cells #[.int .i64 a0_0, (.slice A0_1 l0_1.length c0_1), (.slice A0_2 l0_2.length c0_2)] 31 (0, 0))) ∧ Aside0 (Below w.heap.size w wc))
 case first =>
  have H := HC2.out
  clear HC2
  replace H := Option.bind_eq_some_iff.mp H
  obtain ⟨t115, A40, H⟩ := H
  replace H : (if t115 = true then (if (l0_1.length : Int) > 12 then (spec_NetOk.j0 k true a0_0 l0_1 l0_2) else (spec_NetOk.j0 k (decide ((l0_2.length : Int) > 4)) a0_0 l0_1 l0_2)) else (spec_NetOk.j0 k true a0_0 l0_1 l0_2)) = some r := H
  have A4 := Aside0.mk A40
  clear A40
  by_cases c5 : t115 = true
  ·subst c5
   have H1 : (if (l0_1.length : Int) > 12 then (spec_NetOk.j0 k true a0_0 l0_1 l0_2) else (spec_NetOk.j0 k (decide ((l0_2.length : Int) > 4)) a0_0 l0_1 l0_2)) = some r := by rw [if_pos rfl] at H; exact H
   clear H
   have H := H1
   clear H1
   by_cases c6 : (l0_1.length : Int) > 12
   ·rw [if_pos c6] at H
    have c6b0 : decide (12 < (l0_1.length : Int)) = true := decide_eq_true c6
    have c6b1 : decide (12 < l0_1.length) = true := decide_eq_true (by omega)
    clear c6
    (first | rw [c6b0] | rw [c6b1] | (simp only [i64_w, i32_w]; first | rw [c6b0] | rw [c6b1]) | skip)
    have H' := Aside0.mk H
    clear H
    obtain ⟨hcz7_0, hcz7_1, hcz7_2⟩ := cz3_ BK114
    obtain ⟨hfz7_0, hfz7_1, hfz7_2⟩ := fz3_ BK114
    go_wp2_with (first | ((with_reducible refine gate_callee (f := 75) rfl ?_); refine goesL_ (some 8) rfl rfl Try.func75 (by kernel_rfl) rfl #[.int .i64 a0_0, .int .i64 1, .int .i64 6] rfl mp_q ?_; (with_reducible refine (spec_l01In.calls a0_0 1 6 true _ A4.out).mono ?_); rintro e w' ⟨rfl, ⟨nd, rfl⟩⟩; refine ⟨_, rfl, ?_⟩))
    go_meet
    case rel => exact ⟨_, (true), (by first | rfl | (simp; done) | (simp [*]; done)), H', ⟨by first | omega | exact Nat.le_refl _⟩, ⟨by refine bz_ ?_; exact BK114.out⟩, ⟨bw_q HB⟩⟩
   ·rw [if_neg c6] at H
    have c6b0 : decide (12 < (l0_1.length : Int)) = false := decide_eq_false c6
    have c6b1 : decide (12 < l0_1.length) = false := decide_eq_false (by omega)
    clear c6
    (first | rw [c6b0] | rw [c6b1] | (simp only [i64_w, i32_w]; first | rw [c6b0] | rw [c6b1]) | skip)
    have H' := Aside0.mk H
    clear H
    obtain ⟨hcz8_0, hcz8_1, hcz8_2⟩ := cz3_ BK114
    obtain ⟨hfz8_0, hfz8_1, hfz8_2⟩ := fz3_ BK114
    go_wp2_with (first | ((with_reducible refine gate_callee (f := 75) rfl ?_); refine goesL_ (some 8) rfl rfl Try.func75 (by kernel_rfl) rfl #[.int .i64 a0_0, .int .i64 1, .int .i64 6] rfl mp_q ?_; (with_reducible refine (spec_l01In.calls a0_0 1 6 true _ A4.out).mono ?_); rintro e w' ⟨rfl, ⟨nd, rfl⟩⟩; refine ⟨_, rfl, ?_⟩))
    go_meet
    case rel => exact ⟨_, (decide ((l0_2.length : Int) > 4)), (by first | rfl | (simp; done) | (simp [*]; done)), H', ⟨by first | omega | exact Nat.le_refl _⟩, ⟨by refine bz_ ?_; exact BK114.out⟩, ⟨bw_q HB⟩⟩
  ·replace c5 := Bool.eq_false_iff.mpr c5
   subst c5
   have H1 : (spec_NetOk.j0 k true a0_0 l0_1 l0_2) = some r := by rw [if_neg (show ¬ (false = true) by decide)] at H; exact H
   clear H
   have H := H1
   clear H1
   have H' := Aside0.mk H
   clear H
   obtain ⟨hcz9_0, hcz9_1, hcz9_2⟩ := cz3_ BK114
   obtain ⟨hfz9_0, hfz9_1, hfz9_2⟩ := fz3_ BK114
   go_wp2_with (first | ((with_reducible refine gate_callee (f := 75) rfl ?_); refine goesL_ (some 8) rfl rfl Try.func75 (by kernel_rfl) rfl #[.int .i64 a0_0, .int .i64 1, .int .i64 6] rfl mp_q ?_; (with_reducible refine (spec_l01In.calls a0_0 1 6 false _ A4.out).mono ?_); rintro e w' ⟨rfl, ⟨nd, rfl⟩⟩; refine ⟨_, rfl, ?_⟩))
   go_meet
   case rel => exact ⟨_, (true), (by first | rfl | (simp; done) | (simp [*]; done)), H', ⟨by first | omega | exact Nat.le_refl _⟩, ⟨by refine bz_ ?_; exact BK114.out⟩, ⟨bw_q HB⟩⟩
 case rest =>
  clear HC2
  try clear c1
  try clear p2
  try clear c5
  try clear c6
  try clear c6b0
  try clear c6b1
  try clear c7
  try clear hcz7_0
  try clear hcz7_1
  try clear hcz7_2
  try clear hcz8_0
  try clear hcz8_1
  try clear hcz8_2
  try clear hcz9_0
  try clear hcz9_1
  try clear hcz9_2
  try clear hfz7_0
  try clear hfz7_1
  try clear hfz7_2
  try clear hfz8_0
  try clear hfz8_1
  try clear hfz8_2
  try clear hfz9_0
  try clear hfz9_1
  try clear hfz9_2
  obtain ⟨kq, x21_1, rfl, HA, HJ1, BK114, HB⟩ := hcut
  cases kq with
  | zero => exact absurd HA.out (by simp [spec_NetOk.j0])
  | succ kj1 =>
   have H := HA.out
   clear HA
   simp only [spec_NetOk.j0] at H
   by_cases c10 : x21_1 = true
   ·subst c10
    have H1 : (some false) = some r := by rw [if_pos rfl] at H; exact H
    clear H
    have H := H1
    clear H1
    obtain rfl := Option.some.inj H
    go_wp2
    go_ret
    exact ⟨er_q, bw_q HB⟩
   ·replace c10 := Bool.eq_false_iff.mpr c10
    subst c10
    have H1 : (spec_NetOk.l0 kj1 0 a0_0 l0_1 l0_2) = some r := by rw [if_neg (show ¬ (false = true) by decide)] at H; exact H
    clear H
    have H := H1
    clear H1
    have H' := Aside0.mk H
    clear H
    go_wp2
    go_loopg [3] kj1 (fun kq v3 w' => ∃ (x3_2 : Int), v3 = .int .i64 x3_2 ∧ Aside0 (spec_NetOk.l0 kq x3_2 a0_0 l0_1 l0_2 = some r) ∧ Aside0 (kq ≤ kj1) ∧ Aside0 (w'.heap[gb114]? = some (.cells #[.int .i64 a0_0, (.slice A0_1 l0_1.length c0_1), (.slice A0_2 l0_2.length c0_2)] 31 (0, 0))) ∧ Aside0 (Below w.heap.size w w'))
    case atStart => exact ⟨(0), (by first | rfl | (simp; done) | (simp [*]; done)), H', ⟨Nat.le_refl _⟩, ⟨by refine bz_ ?_; exact BK114.out⟩, ⟨bw_q HB⟩⟩
    case round =>
     clear H'
     try clear c1
     try clear p2
     try clear c5
     try clear c6
     try clear c6b0
     try clear c6b1
     try clear c7
     try clear c10
     try clear hcz7_0
     try clear hcz7_1
     try clear hcz7_2
     try clear hcz8_0
     try clear hcz8_1
     try clear hcz8_2
     try clear hcz9_0
     try clear hcz9_1
     try clear hcz9_2
     try clear hfz7_0
     try clear hfz7_1
     try clear hfz7_2
     try clear hfz8_0
     try clear hfz8_1
     try clear hfz8_2
     try clear hfz9_0
     try clear hfz9_1
     try clear hfz9_2
     try clear p2
     obtain ⟨x3_2, rfl, HA, HK2, BK114, HB⟩ := hrel
     cases gk with
     | zero => exact absurd HA.out (by simp [spec_NetOk.l0])
     | succ k2 =>
      have H := HA.out
      clear HA
      simp only [spec_NetOk.l0] at H
      by_cases c11 : x3_2 < (l0_1.length : Int)
      ·rw [if_pos c11] at H
       have c11b0 : decide (x3_2 < (l0_1.length : Int)) = true := decide_eq_true c11
       clear c11
       by_cases c12 : 0 ≤ x3_2
       ·rw [if_pos c12] at H
        have c12b0 : decide (0 ≤ x3_2) = true := decide_eq_true c12
        clear c12
        replace H := Option.bind_eq_some_iff.mp H
        obtain ⟨t117, A130, H⟩ := H
        replace H : (if t117 = true then (if x3_2 > 0 then (if 0 ≤ (wrap64 (x3_2 - 1)) then (if (wrap64 (x3_2 - 1)) < (l0_1.length : Int) then ((spec_l03Ahead.f ((rd_T93 l0_1 (wrap64 (x3_2 - 1))).f0) ((rd_T93 l0_1 (wrap64 (x3_2 - 1))).f1) ((rd_T93 l0_1 (wrap64 (x3_2 - 1))).f2) ((rd_T93 l0_1 (wrap64 (x3_2 - 1))).f3) ((rd_T93 l0_1 x3_2).f0) ((rd_T93 l0_1 x3_2).f1) ((rd_T93 l0_1 x3_2).f2) ((rd_T93 l0_1 x3_2).f3)).bind fun t119 => (if t119 = true then (spec_NetOk.l0 k2 (wrap64 (x3_2 + 1)) a0_0 l0_1 l0_2) else (some false))) else (none)) else (none)) else (spec_NetOk.l0 k2 (wrap64 (x3_2 + 1)) a0_0 l0_1 l0_2)) else (some false)) = some r := H
        have A13 := Aside0.mk A130
        clear A130
        have HZ27 := Aside0.mk H
        clear H
        obtain ⟨hcz21_0, hcz21_1, hcz21_2⟩ := cz3_ BK114
        obtain ⟨hfz21_0, hfz21_1, hfz21_2⟩ := fz3_ BK114
        try go_wp2
        replace BK114 := Aside0.mk (blk_drew BK114.out)
        replace HB := Aside0.mk (below_drew1 HB.out)
        have p116 : 0 ≤ (x3_2 : Int) := of_decide_eq_true as_q
        have q116 : x3_2 < (l0_1.length : Int) := of_decide_eq_true as_q
        obtain ⟨ad116, e116, hx116_0, hx116_1, hx116_2, hx116_3⟩ := at_T93 HR0_1.out x3_2 p116 q116
        have hw116_3 := hx116_3
        have hw116_2 := hx116_2
        have hw116_1 := hx116_1
        have hw116_0 := hx116_0
        cases e116
        replace hx116_0 := (HB.out.cell (World.block_lt_of_cell? w _ hx116_0)).trans hx116_0
        replace hx116_1 := (HB.out.cell (World.block_lt_of_cell? w _ hx116_1)).trans hx116_1
        replace hx116_2 := (HB.out.cell (World.block_lt_of_cell? w _ hx116_2)).trans hx116_2
        replace hx116_3 := (HB.out.cell (World.block_lt_of_cell? w _ hx116_3)).trans hx116_3
        replace p116 := eq_true p116
        replace q116 := eq_true q116
        refine start_ (n := 28) (S := fun w' => w'.cell? ⟨gb114, 0, none⟩ = some (.int .i64 a0_0) ∧ w'.cell? ⟨gb114, 1, none⟩ = some (.slice (some ad116) l0_1.length c0_1) ∧ w'.cell? ⟨gb114, 2, none⟩ = some (.slice A0_2 l0_2.length c0_2) ∧ w'.cell? (ad116.add ((x3_2).toNat * 4)) = some (.int .i64 ((rd_T93 l0_1 x3_2).f0)) ∧ w'.cell? ⟨(ad116.add ((x3_2).toNat * 4)).block, (ad116.add ((x3_2).toNat * 4)).off + 1, none⟩ = some (.int .i64 ((rd_T93 l0_1 x3_2).f1)) ∧ w'.cell? ⟨(ad116.add ((x3_2).toNat * 4)).block, (ad116.add ((x3_2).toNat * 4)).off + 2, none⟩ = some (.int .i64 ((rd_T93 l0_1 x3_2).f2)) ∧ w'.cell? ⟨(ad116.add ((x3_2).toNat * 4)).block, (ad116.add ((x3_2).toNat * 4)).off + 3, none⟩ = some (.int .i64 ((rd_T93 l0_1 x3_2).f3))) (ds := []) (bL 28 0) (by kernel_rfl) rfl rfl ⟨(blk_cell BK114.out 0).trans rfl, (blk_cell BK114.out 1).trans rfl, (blk_cell BK114.out 2).trans rfl, ((HB.out.cell (World.block_lt_of_cell? w _ hw116_0)).trans hw116_0), ((HB.out.cell (World.block_lt_of_cell? w _ hw116_1)).trans hw116_1), ((HB.out.cell (World.block_lt_of_cell? w _ hw116_2)).trans hw116_2), ((HB.out.cell (World.block_lt_of_cell? w _ hw116_3)).trans hw116_3)⟩ (fun hHeld => ?_); refine with_tabW spec_NetOk.tab6 spec_NetOk.bits6 (fun HT_ HW_ => ?_)
        generalize wr.drew = w22 at BK114 HB hx116_0 hx116_1 hx116_2 hx116_3 hHeld ⊢
        refine pq_ 0 29 (bL 28 1) HT_.out rfl rfl ?_
        refine pq_ 2 31 (bL 28 5) HT_.out rfl rfl ?_
        refine pq_ 4 33 (bL 28 21) HT_.out rfl rfl ?_
        refine take_ (i := 1) (N := some 30) (v := ?_) (a' := ?_) (bL 28 23) rfl rfl (take_ofW HT_.out HW_.out (by kernel_rfl)) (fun _ _ _ h => h) (Or.inl ⟨by rfl, ?_⟩) hHeld ?_ ?_; rotate_left; (rintro w' ⟨s0, s1, s2, s3, s4, s5, s6⟩; go_simp; with_reducible rfl); rotate_left; (exact put_q)
        refine take_ (i := 3) (N := some 32) (v := ?_) (a' := ?_) (bL 28 31) rfl rfl (take_ofW HT_.out HW_.out (by kernel_rfl)) (fun _ _ _ h => h) (Or.inl ⟨by rfl, ?_⟩) hHeld ?_ ?_; rotate_left; (rintro w' ⟨s0, s1, s2, s3, s4, s5, s6⟩; go_simp; with_reducible rfl); rotate_left; (exact put_q)
        refine pq_ 5 34 (bL 28 63) HT_.out rfl rfl ?_
        refine take_ (i := 6) (N := some 35) (v := ?_) (a' := ?_) (bL 28 127) rfl rfl (take_ofW HT_.out HW_.out (by kernel_rfl)) (fun _ _ _ h => h) (Or.inl ⟨by rfl, ?_⟩) hHeld ?_ ?_; rotate_left; (rintro w' ⟨s0, s1, s2, s3, s4, s5, s6⟩; go_simp; with_reducible rfl); rotate_left; (exact put_q)
        refine one_ (i := 7) (N := some 36) (bL 28 255) rfl rfl (one_of HT_.out (by kernel_rfl)) (by decide) (fun K hK => ?_)
        refine goes_ Try.func76 (by kernel_rfl) rfl #[.int .i64 a0_0, .agg #[.int .i64 ((rd_T93 l0_1 x3_2).f0), .int .i64 ((rd_T93 l0_1 x3_2).f1), .int .i64 ((rd_T93 l0_1 x3_2).f2), .int .i64 ((rd_T93 l0_1 x3_2).f3)]] (by rfl) rfl rfl mp_q ?_
        with_reducible refine (spec_LinkOk.calls a0_0 ((rd_T93 l0_1 x3_2).f0) ((rd_T93 l0_1 x3_2).f1) ((rd_T93 l0_1 x3_2).f2) ((rd_T93 l0_1 x3_2).f3) t117 _ A13.out).mono ?_
        rintro e w23 ⟨rfl, hb⟩
        refine ⟨_, rfl, ?_⟩
        replace BK114 := Aside0.mk (blk_below (g := gb114) (bk_q BK114) hb)
        replace HB := Aside0.mk (below_step (bw_q HB) hb)
        (try clear hb)
        (try clear hb2)
        (try clear hk)
        (try clear hi)
        refine hK.out _ _ ⟨(blk_cell BK114.out 0).trans rfl, (blk_cell BK114.out 1).trans rfl, (blk_cell BK114.out 2).trans rfl, ((HB.out.cell (World.block_lt_of_cell? w _ hw116_0)).trans hw116_0), ((HB.out.cell (World.block_lt_of_cell? w _ hw116_1)).trans hw116_1), ((HB.out.cell (World.block_lt_of_cell? w _ hw116_2)).trans hw116_2), ((HB.out.cell (World.block_lt_of_cell? w _ hw116_3)).trans hw116_3)⟩ (fun hHeld => ?_)
        clear hK K
        refine norm_ (a' := ?_) ?_ ?_; rotate_left; (show Act.put _ (some 36) _ = _; simp only [Act.put, List.setIfInBounds_toArray, List.set_cons_zero, List.set_cons_succ, i64_w, i32_w]; rfl)
        refine pq_ 8 37 (bL 28 511) HT_.out rfl rfl ?_
        refine pq_ 9 38 (bL 28 1023) HT_.out rfl rfl ?_
        have H := HZ27.out
        clear HZ27
        by_cases c14 : t117 = true
        ·subst c14
         have H1 : (if x3_2 > 0 then (if 0 ≤ (wrap64 (x3_2 - 1)) then (if (wrap64 (x3_2 - 1)) < (l0_1.length : Int) then ((spec_l03Ahead.f ((rd_T93 l0_1 (wrap64 (x3_2 - 1))).f0) ((rd_T93 l0_1 (wrap64 (x3_2 - 1))).f1) ((rd_T93 l0_1 (wrap64 (x3_2 - 1))).f2) ((rd_T93 l0_1 (wrap64 (x3_2 - 1))).f3) ((rd_T93 l0_1 x3_2).f0) ((rd_T93 l0_1 x3_2).f1) ((rd_T93 l0_1 x3_2).f2) ((rd_T93 l0_1 x3_2).f3)).bind fun t119 => (if t119 = true then (spec_NetOk.l0 k2 (wrap64 (x3_2 + 1)) a0_0 l0_1 l0_2) else (some false))) else (none)) else (none)) else (spec_NetOk.l0 k2 (wrap64 (x3_2 + 1)) a0_0 l0_1 l0_2)) = some r := by rw [if_pos rfl] at H; exact H
         clear H
         have H := H1
         clear H1
         have HZ28 := Aside0.mk H
         clear H
         refine pq_ 10 39 (bL 28 2047) HT_.out rfl rfl ?_
         refine pq_ 11 40 (bL 28 4095) HT_.out rfl rfl ?_
         refine pq_ 12 41 (bL 28 8191) HT_.out rfl rfl ?_
         have H := HZ28.out
         clear HZ28
         by_cases c15 : x3_2 > 0
         ·rw [if_pos c15] at H
          have c15b0 : decide (0 < x3_2) = true := decide_eq_true c15
          (first | rw [c15b0] | (simp only [i64_w, i32_w]; first | rw [c15b0]) | skip)
          clear c15
          obtain ⟨ji16, hji16⟩ : ∃ j_ : Int, (wrap64 (x3_2 - 1)) = j_ := ⟨_, rfl⟩
          replace H : (if 0 ≤ (ji16) then (if (ji16) < (l0_1.length : Int) then ((spec_l03Ahead.f ((rd_T93 l0_1 (ji16)).f0) ((rd_T93 l0_1 (ji16)).f1) ((rd_T93 l0_1 (ji16)).f2) ((rd_T93 l0_1 (ji16)).f3) ((rd_T93 l0_1 x3_2).f0) ((rd_T93 l0_1 x3_2).f1) ((rd_T93 l0_1 x3_2).f2) ((rd_T93 l0_1 x3_2).f3)).bind fun t119 => (if t119 = true then (spec_NetOk.l0 k2 (wrap64 (x3_2 + 1)) a0_0 l0_1 l0_2) else (some false))) else (none)) else (none)) = some r := by first | (rw [hji16] at H; exact H) | (simp only [hji16] at H ⊢; exact H)
          (try rw [hji16] at A13)
          have hji16w : (IntKind.i64.wrap (x3_2 - 1)) = ji16 := (i64_w _).trans hji16
          by_cases c17 : 0 ≤ (ji16)
          ·rw [if_pos c17] at H
           have c17b0 : decide (0 ≤ (ji16)) = true := decide_eq_true c17
           clear c17
           by_cases c18 : (ji16) < (l0_1.length : Int)
           ·rw [if_pos c18] at H
            have c18b0 : decide ((ji16) < (l0_1.length : Int)) = true := decide_eq_true c18
            clear c18
            replace H := Option.bind_eq_some_iff.mp H
            obtain ⟨t119, A190, H⟩ := H
            replace H : (if t119 = true then (spec_NetOk.l0 k2 (wrap64 (x3_2 + 1)) a0_0 l0_1 l0_2) else (some false)) = some r := H
            have A19 := Aside0.mk A190
            clear A190
            have HZ29 := Aside0.mk H
            clear H
            have p118 : 0 ≤ ((ji16) : Int) := of_decide_eq_true as_q
            have q118 : (ji16) < (l0_1.length : Int) := of_decide_eq_true as_q
            obtain ⟨ad118, e118, hx118_0, hx118_1, hx118_2, hx118_3⟩ := at_T93 HR0_1.out (ji16) p118 q118
            have hw118_3 := hx118_3
            have hw118_2 := hx118_2
            have hw118_1 := hx118_1
            have hw118_0 := hx118_0
            obtain rfl : ad116 = ad118 := (by injection e118)
            replace hx118_0 := (HB.out.cell (World.block_lt_of_cell? w _ hx118_0)).trans hx118_0
            replace hx118_1 := (HB.out.cell (World.block_lt_of_cell? w _ hx118_1)).trans hx118_1
            replace hx118_2 := (HB.out.cell (World.block_lt_of_cell? w _ hx118_2)).trans hx118_2
            replace hx118_3 := (HB.out.cell (World.block_lt_of_cell? w _ hx118_3)).trans hx118_3
            replace p118 := eq_true p118
            replace q118 := eq_true q118
            refine last_weaken (fun w' => w'.cell? ⟨gb114, 0, none⟩ = some (.int .i64 a0_0) ∧ w'.cell? ⟨gb114, 1, none⟩ = some (.slice (some ad116) l0_1.length c0_1) ∧ w'.cell? ⟨gb114, 2, none⟩ = some (.slice A0_2 l0_2.length c0_2) ∧ w'.cell? (ad116.add ((x3_2).toNat * 4)) = some (.int .i64 ((rd_T93 l0_1 x3_2).f0)) ∧ w'.cell? ⟨(ad116.add ((x3_2).toNat * 4)).block, (ad116.add ((x3_2).toNat * 4)).off + 1, none⟩ = some (.int .i64 ((rd_T93 l0_1 x3_2).f1)) ∧ w'.cell? ⟨(ad116.add ((x3_2).toNat * 4)).block, (ad116.add ((x3_2).toNat * 4)).off + 2, none⟩ = some (.int .i64 ((rd_T93 l0_1 x3_2).f2)) ∧ w'.cell? ⟨(ad116.add ((x3_2).toNat * 4)).block, (ad116.add ((x3_2).toNat * 4)).off + 3, none⟩ = some (.int .i64 ((rd_T93 l0_1 x3_2).f3)) ∧ w'.cell? (ad116.add (((ji16)).toNat * 4)) = some (.int .i64 ((rd_T93 l0_1 (ji16)).f0)) ∧ w'.cell? ⟨(ad116.add (((ji16)).toNat * 4)).block, (ad116.add (((ji16)).toNat * 4)).off + 1, none⟩ = some (.int .i64 ((rd_T93 l0_1 (ji16)).f1)) ∧ w'.cell? ⟨(ad116.add (((ji16)).toNat * 4)).block, (ad116.add (((ji16)).toNat * 4)).off + 2, none⟩ = some (.int .i64 ((rd_T93 l0_1 (ji16)).f2)) ∧ w'.cell? ⟨(ad116.add (((ji16)).toNat * 4)).block, (ad116.add (((ji16)).toNat * 4)).off + 3, none⟩ = some (.int .i64 ((rd_T93 l0_1 (ji16)).f3))) (fun w' h_ => ⟨h_.1, h_.2.1, h_.2.2.1, h_.2.2.2.1, h_.2.2.2.2.1, h_.2.2.2.2.2.1, h_.2.2.2.2.2.2.1⟩) ⟨hHeld.1, hHeld.2.1, hHeld.2.2.1, hHeld.2.2.2.1, hHeld.2.2.2.2.1, hHeld.2.2.2.2.2.1, hHeld.2.2.2.2.2.2, (by first | assumption | exact ((HB.out.cell (World.block_lt_of_cell? w _ hw118_0)).trans hw118_0)), (by first | assumption | exact ((HB.out.cell (World.block_lt_of_cell? w _ hw118_1)).trans hw118_1)), (by first | assumption | exact ((HB.out.cell (World.block_lt_of_cell? w _ hw118_2)).trans hw118_2)), (by first | assumption | exact ((HB.out.cell (World.block_lt_of_cell? w _ hw118_3)).trans hw118_3))⟩ (fun hHeld => ?_)
            refine pq_ 13 42 (bL 28 16383) HT_.out rfl rfl ?_
            refine pq_ 15 44 (bL 28 49151) HT_.out rfl rfl ?_
            refine pq_ 16 45 (bL 28 114687) HT_.out rfl rfl ?_
            refine pq_ 19 48 (bL 28 638975) HT_.out rfl rfl ?_
            refine pq_ 21 50 (bL 28 2736127) HT_.out rfl rfl ?_
            refine take_ (i := 14) (N := some 43) (v := ?_) (a' := ?_) (bL 28 2752511) rfl rfl (take_ofW HT_.out HW_.out (by kernel_rfl)) (fun _ _ _ h => h) (Or.inl ⟨by rfl, ?_⟩) hHeld ?_ ?_; rotate_left; (rintro w' ⟨s0, s1, s2, s3, s4, s5, s6, s7, s8, s9, s10⟩; go_simp; with_reducible rfl); rotate_left; (exact put_q)
            refine pq_ 17 46 (bL 28 2883583) HT_.out rfl rfl ?_
            refine take_ (i := 18) (N := some 47) (v := ?_) (a' := ?_) (bL 28 3145727) rfl rfl (take_ofW HT_.out HW_.out (by kernel_rfl)) (fun _ _ _ h => h) (Or.inl ⟨by rfl, ?_⟩) hHeld ?_ ?_; rotate_left; (rintro w' ⟨s0, s1, s2, s3, s4, s5, s6, s7, s8, s9, s10⟩; go_simp; with_reducible rfl); rotate_left; (exact put_q)
            refine take_ (i := 20) (N := some 49) (v := ?_) (a' := ?_) (bL 28 4194303) rfl rfl (take_ofW HT_.out HW_.out (by kernel_rfl)) (fun _ _ _ h => h) (Or.inl ⟨by rfl, ?_⟩) hHeld ?_ ?_; rotate_left; (rintro w' ⟨s0, s1, s2, s3, s4, s5, s6, s7, s8, s9, s10⟩; go_simp; with_reducible rfl); rotate_left; (exact put_q)
            refine pq_ 22 51 (bL 28 8388607) HT_.out rfl rfl ?_
            refine take_ (i := 23) (N := some 52) (v := ?_) (a' := ?_) (bL 28 16777215) rfl rfl (take_ofW HT_.out HW_.out (by kernel_rfl)) (fun _ _ _ h => h) (Or.inl ⟨by rfl, ?_⟩) hHeld ?_ ?_; rotate_left; (rintro w' ⟨s0, s1, s2, s3, s4, s5, s6, s7, s8, s9, s10⟩; go_simp; with_reducible rfl); rotate_left; (exact put_q)
            refine one_ (i := 24) (N := some 53) (bL 28 33554431) rfl rfl (one_of HT_.out (by kernel_rfl)) (by decide) (fun K hK => ?_)
            refine goes_ Try.func77 (by kernel_rfl) rfl #[.agg #[.int .i64 ((rd_T93 l0_1 (ji16)).f0), .int .i64 ((rd_T93 l0_1 (ji16)).f1), .int .i64 ((rd_T93 l0_1 (ji16)).f2), .int .i64 ((rd_T93 l0_1 (ji16)).f3)], .agg #[.int .i64 ((rd_T93 l0_1 x3_2).f0), .int .i64 ((rd_T93 l0_1 x3_2).f1), .int .i64 ((rd_T93 l0_1 x3_2).f2), .int .i64 ((rd_T93 l0_1 x3_2).f3)]] (by rfl) rfl rfl (by (try simp only [List.map_toArray, List.map_cons, List.map_nil]); first | done | (simp only [hji16]; rfl) | rfl | (simp only [List.length_drop, List.length_take]; rfl)) ?_
            with_reducible refine (spec_l03Ahead.calls ((rd_T93 l0_1 (ji16)).f0) ((rd_T93 l0_1 (ji16)).f1) ((rd_T93 l0_1 (ji16)).f2) ((rd_T93 l0_1 (ji16)).f3) ((rd_T93 l0_1 x3_2).f0) ((rd_T93 l0_1 x3_2).f1) ((rd_T93 l0_1 x3_2).f2) ((rd_T93 l0_1 x3_2).f3) t119 _ A19.out).mono ?_
            rintro e w24 ⟨rfl, hb⟩
            refine ⟨_, rfl, ?_⟩
            replace BK114 := Aside0.mk (blk_below (g := gb114) (bk_q BK114) hb)
            replace HB := Aside0.mk (below_step (bw_q HB) hb)
            (try clear hb)
            (try clear hb2)
            (try clear hk)
            (try clear hi)
            refine hK.out _ _ ⟨(blk_cell BK114.out 0).trans rfl, (blk_cell BK114.out 1).trans rfl, (blk_cell BK114.out 2).trans rfl, ((HB.out.cell (World.block_lt_of_cell? w _ hw116_0)).trans hw116_0), ((HB.out.cell (World.block_lt_of_cell? w _ hw116_1)).trans hw116_1), ((HB.out.cell (World.block_lt_of_cell? w _ hw116_2)).trans hw116_2), ((HB.out.cell (World.block_lt_of_cell? w _ hw116_3)).trans hw116_3), ((HB.out.cell (World.block_lt_of_cell? w _ hw118_0)).trans hw118_0), ((HB.out.cell (World.block_lt_of_cell? w _ hw118_1)).trans hw118_1), ((HB.out.cell (World.block_lt_of_cell? w _ hw118_2)).trans hw118_2), ((HB.out.cell (World.block_lt_of_cell? w _ hw118_3)).trans hw118_3)⟩ (fun hHeld => ?_)
            clear hK K
            refine norm_ (a' := ?_) ?_ ?_; rotate_left; (show Act.put _ (some 53) _ = _; simp only [Act.put, List.setIfInBounds_toArray, List.set_cons_zero, List.set_cons_succ, i64_w, i32_w]; rfl)
            refine pq_ 25 54 (bL 28 67108863) HT_.out rfl rfl ?_
            refine pq_ 26 55 (bL 28 134217727) HT_.out rfl rfl ?_
            refine pq_ 27 56 (bL 28 268435455) HT_.out rfl rfl ?_
            have H := HZ29.out
            clear HZ29
            by_cases c20 : t119 = true
            ·subst c20
             have H1 : (spec_NetOk.l0 k2 (wrap64 (x3_2 + 1)) a0_0 l0_1 l0_2) = some r := by rw [if_pos rfl] at H; exact H
             clear H
             have H := H1
             clear H1
             have H' := Aside0.mk H
             clear H
             refine done_ (done_of HT_.out (by kernel_rfl)) ?_
             try go_wp2
             go_roundg k2
             case measure => have := HJ1.out; have := HK2.out; omega
             case rel => exact ⟨(wrap64 (x3_2 + 1)), (by first | rfl | (simp; done) | (simp [*]; done)), H', ⟨by have := HJ1.out; have := HK2.out; omega⟩, ⟨by refine bz_ ?_; exact BK114.out⟩, ⟨bw_q HB⟩⟩
            ·replace c20 := Bool.eq_false_iff.mpr c20
             subst c20
             have H1 : (some false) = some r := by rw [if_neg (show ¬ (false = true) by decide)] at H; exact H
             clear H
             have H := H1
             clear H1
             obtain rfl := Option.some.inj H
             refine done_ (done_of HT_.out (by kernel_rfl)) ?_
             try go_wp2
             go_ret
             exact ⟨by first | rfl | (simp [errW_none, errW_some] <;> rfl) | (simp only [← hji16]; first | rfl | (simp [errW_none, errW_some] <;> rfl)) | (simp [*, errW_none, errW_some] <;> rfl), bw_q HB⟩
           ·rw [if_neg c18] at H
            exact absurd H (by simp)
          ·rw [if_neg c17] at H
           exact absurd H (by simp)
         ·rw [if_neg c15] at H
          have c15b0 : decide (0 < x3_2) = false := decide_eq_false c15
          (first | rw [c15b0] | (simp only [i64_w, i32_w]; first | rw [c15b0]) | skip)
          clear c15
          have H' := Aside0.mk H
          clear H
          refine pu_ 13 42 (bL 28 16383) HT_.out rfl rfl ?_
          refine pu_ 14 43 (bL 28 32767) HT_.out rfl rfl ?_
          refine pu_ 15 44 (bL 28 65535) HT_.out rfl rfl ?_
          refine pu_ 16 45 (bL 28 131071) HT_.out rfl rfl ?_
          refine pu_ 17 46 (bL 28 262143) HT_.out rfl rfl ?_
          refine pu_ 18 47 (bL 28 524287) HT_.out rfl rfl ?_
          refine pu_ 19 48 (bL 28 1048575) HT_.out rfl rfl ?_
          refine pu_ 20 49 (bL 28 2097151) HT_.out rfl rfl ?_
          refine pu_ 21 50 (bL 28 4194303) HT_.out rfl rfl ?_
          refine pu_ 22 51 (bL 28 8388607) HT_.out rfl rfl ?_
          refine pu_ 23 52 (bL 28 16777215) HT_.out rfl rfl ?_
          refine pu_ 24 53 (bL 28 33554431) HT_.out rfl rfl ?_
          refine pu_ 25 54 (bL 28 67108863) HT_.out rfl rfl ?_
          refine pq_ 26 55 (bL 28 134217727) HT_.out rfl rfl ?_
          refine pq_ 27 56 (bL 28 268435455) HT_.out rfl rfl ?_
          refine done_ (done_of HT_.out (by kernel_rfl)) ?_
          try go_wp2
          go_roundg k2
          case measure => have := HJ1.out; have := HK2.out; omega
          case rel => exact ⟨(wrap64 (x3_2 + 1)), (by first | rfl | (simp; done) | (simp [*]; done)), H', ⟨by have := HJ1.out; have := HK2.out; omega⟩, ⟨by refine bz_ ?_; exact BK114.out⟩, ⟨bw_q HB⟩⟩
        ·replace c14 := Bool.eq_false_iff.mpr c14
         subst c14
         have H1 : (some false) = some r := by rw [if_neg (show ¬ (false = true) by decide)] at H; exact H
         clear H
         have H := H1
         clear H1
         obtain rfl := Option.some.inj H
         refine pu_ 10 39 (bL 28 2047) HT_.out rfl rfl ?_
         refine pu_ 11 40 (bL 28 4095) HT_.out rfl rfl ?_
         refine pu_ 12 41 (bL 28 8191) HT_.out rfl rfl ?_
         refine pu_ 13 42 (bL 28 16383) HT_.out rfl rfl ?_
         refine pu_ 14 43 (bL 28 32767) HT_.out rfl rfl ?_
         refine pu_ 15 44 (bL 28 65535) HT_.out rfl rfl ?_
         refine pu_ 16 45 (bL 28 131071) HT_.out rfl rfl ?_
         refine pu_ 17 46 (bL 28 262143) HT_.out rfl rfl ?_
         refine pu_ 18 47 (bL 28 524287) HT_.out rfl rfl ?_
         refine pu_ 19 48 (bL 28 1048575) HT_.out rfl rfl ?_
         refine pu_ 20 49 (bL 28 2097151) HT_.out rfl rfl ?_
         refine pu_ 21 50 (bL 28 4194303) HT_.out rfl rfl ?_
         refine pu_ 22 51 (bL 28 8388607) HT_.out rfl rfl ?_
         refine pu_ 23 52 (bL 28 16777215) HT_.out rfl rfl ?_
         refine pu_ 24 53 (bL 28 33554431) HT_.out rfl rfl ?_
         refine pu_ 25 54 (bL 28 67108863) HT_.out rfl rfl ?_
         refine pu_ 26 55 (bL 28 134217727) HT_.out rfl rfl ?_
         refine pq_ 27 56 (bL 28 268435455) HT_.out rfl rfl ?_
         refine done_ (done_of HT_.out (by kernel_rfl)) ?_
         try go_wp2
         go_ret
         exact ⟨er_q, bw_q HB⟩
       ·rw [if_neg c12] at H
        exact absurd H (by simp)
      ·rw [if_neg c11] at H
       have c11b0 : decide (x3_2 < (l0_1.length : Int)) = false := decide_eq_false c11
       clear c11
       have H' := Aside0.mk H
       clear H
       obtain ⟨hcz35_0, hcz35_1, hcz35_2⟩ := cz3_ BK114
       obtain ⟨hfz35_0, hfz35_1, hfz35_2⟩ := fz3_ BK114
       go_wp2
       go_loopg [4] k2 (fun kq v4 w' => ∃ (x4_3 : Int), v4 = .int .i64 x4_3 ∧ Aside0 (spec_NetOk.l1 kq x4_3 a0_0 l0_1 l0_2 = some r) ∧ Aside0 (kq ≤ k2) ∧ Aside0 (w'.heap[gb114]? = some (.cells #[.int .i64 a0_0, (.slice A0_1 l0_1.length c0_1), (.slice A0_2 l0_2.length c0_2)] 31 (0, 0))) ∧ Aside0 (Below w.heap.size w w'))
       case atStart => exact ⟨(0), (by first | rfl | (simp; done) | (simp [*]; done)), H', ⟨Nat.le_refl _⟩, ⟨by refine bz_ ?_; exact BK114.out⟩, ⟨bw_q HB⟩⟩
       case round =>
        clear H'
        try clear c1
        try clear p1
        try clear q1
        try clear hx1
        try clear p2
        try clear p6
        try clear c7
        try clear c11
        try clear c11b0
        try clear p11
        try clear q11
        try clear hx11
        try clear c12
        try clear c14
        try clear c15
        try clear c15b0
        try clear c17
        try clear c18
        try clear hcz29_0
        try clear hcz29_1
        try clear hcz29_2
        try clear hcz32_0
        try clear hcz32_1
        try clear hcz32_2
        try clear hcz35_0
        try clear hcz35_1
        try clear hcz35_2
        try clear hfz29_0
        try clear hfz29_1
        try clear hfz29_2
        try clear hfz32_0
        try clear hfz32_1
        try clear hfz32_2
        try clear hfz35_0
        try clear hfz35_1
        try clear hfz35_2
        try clear hx116_0
        try clear hx116_1
        try clear hx116_2
        try clear hx116_3
        try clear p116
        try clear q116
        obtain ⟨x4_3, rfl, HA, HK3, BK114, HB⟩ := hrel
        cases gk with
        | zero => exact absurd HA.out (by simp [spec_NetOk.l1])
        | succ k3 =>
         have H := HA.out
         clear HA
         simp only [spec_NetOk.l1] at H
         by_cases c36 : x4_3 < (l0_2.length : Int)
         ·rw [if_pos c36] at H
          have c36b0 : decide (x4_3 < (l0_2.length : Int)) = true := decide_eq_true c36
          clear c36
          by_cases c37 : 0 ≤ x4_3
          ·rw [if_pos c37] at H
           have c37b0 : decide (0 ≤ x4_3) = true := decide_eq_true c37
           clear c37
           replace H := Option.bind_eq_some_iff.mp H
           obtain ⟨t122, A380, H⟩ := H
           replace H : (if t122 = true then ((spec_l01In.f ((rd_T102 l0_2 x4_3).f1) 1 9).bind fun t123 => (if t123 = true then ((spec_l01In.f ((rd_T102 l0_2 x4_3).f2) 1 1000).bind fun t124 => (if t124 = true then (if x4_3 > 0 then (if 0 ≤ (wrap64 (x4_3 - 1)) then (if (wrap64 (x4_3 - 1)) < (l0_2.length : Int) then ((spec_l03Thing.f ((rd_T102 l0_2 (wrap64 (x4_3 - 1))).f0) ((rd_T102 l0_2 (wrap64 (x4_3 - 1))).f1) ((rd_T102 l0_2 (wrap64 (x4_3 - 1))).f2) ((rd_T102 l0_2 (wrap64 (x4_3 - 1))).f3) ((rd_T102 l0_2 x4_3).f0) ((rd_T102 l0_2 x4_3).f1) ((rd_T102 l0_2 x4_3).f2) ((rd_T102 l0_2 x4_3).f3)).bind fun t126 => (if t126 = true then (spec_NetOk.l1 k3 (wrap64 (x4_3 + 1)) a0_0 l0_1 l0_2) else (some false))) else (none)) else (none)) else (spec_NetOk.l1 k3 (wrap64 (x4_3 + 1)) a0_0 l0_1 l0_2)) else (some false))) else (some false))) else (some false)) = some r := H
           have A38 := Aside0.mk A380
           clear A380
           have HZ30 := Aside0.mk H
           clear H
           obtain ⟨hcz50_0, hcz50_1, hcz50_2⟩ := cz3_ BK114
           obtain ⟨hfz50_0, hfz50_1, hfz50_2⟩ := fz3_ BK114
           have p120 : 0 ≤ (x4_3 : Int) := of_decide_eq_true as_q
           have q120 : x4_3 < (l0_2.length : Int) := of_decide_eq_true as_q
           obtain ⟨ad120, e120, hx120_0, hx120_1, hx120_2, hx120_3⟩ := at_T102 HR0_2.out x4_3 p120 q120
           cases e120
           replace hx120_0 := (HB.out.cell (World.block_lt_of_cell? w _ hx120_0)).trans hx120_0
           replace hx120_1 := (HB.out.cell (World.block_lt_of_cell? w _ hx120_1)).trans hx120_1
           replace hx120_2 := (HB.out.cell (World.block_lt_of_cell? w _ hx120_2)).trans hx120_2
           replace hx120_3 := (HB.out.cell (World.block_lt_of_cell? w _ hx120_3)).trans hx120_3
           replace p120 := eq_true p120
           replace q120 := eq_true q120
           try go_wp2_with (first | ((with_reducible refine gate_dst (N := 5) rfl ?_); (try (refine gate_guard (by rfl) ?_; dsimp only)); refine box_q 5 #[.int .i64 0, .int .i64 0, .int .i64 0, .bool false] 102 ?_; intro gb121 hg w51 hbox hb; have BK121 := Aside0.mk (hbox); have GW121 := Aside0.mk ((by rw [hg]; exact (below_size (bw_q HB)) : w.heap.size ≤ gb121)); have GE121 := Aside0.mk ((by rw [hg]; exact (below_size (bw_q HB)) : w.heap.size ≤ gb121)); replace HB := Aside0.mk (below_step (bw_q HB) hb); have NB114_121 := Aside0.mk ((by rw [hg]; exact Nat.ne_of_lt (blk_lt (g := gb114) (o := .cells #[.int .i64 a0_0, .slice A0_1 l0_1.length c0_1, .slice (some ad120) l0_2.length c0_2] 31 (0, 0)) (bk_q BK114)) : gb114 ≠ gb121)); have NB121_114 := Aside0.mk ((by rw [hg]; exact Nat.ne_of_gt (blk_lt (g := gb114) (o := .cells #[.int .i64 a0_0, .slice A0_1 l0_1.length c0_1, .slice (some ad120) l0_2.length c0_2] 31 (0, 0)) (bk_q BK114)) : gb121 ≠ gb114)); replace BK114 := Aside0.mk (blk_below (g := gb114) (bk_q BK114) hb); clear hb hbox hg; have hnb52 := NB121_114.out; have hnc52 := NB114_121.out; have hcz53_0 : w51.cell? ⟨gb121, 0, none⟩ = some (.int .i64 0) := (blk_cell BK121.out 0).trans rfl; have hcz53_1 : w51.cell? ⟨gb121, 1, none⟩ = some (.int .i64 0) := (blk_cell BK121.out 1).trans rfl; have hcz53_2 : w51.cell? ⟨gb121, 2, none⟩ = some (.int .i64 0) := (blk_cell BK121.out 2).trans rfl; have hcz53_3 : w51.cell? ⟨gb121, 3, none⟩ = some (.bool false) := (blk_cell BK121.out 3).trans rfl; have hfz53_0 := blk_frozen BK121.out 0; have hfz53_1 := blk_frozen BK121.out 1; have hfz53_2 := blk_frozen BK121.out 2; have hfz53_3 := blk_frozen BK121.out 3))
           have n0_ : Aside0 (((((w51.setCell ⟨gb121, 0, none⟩ (.int .i64 ((rd_T102 l0_2 x4_3).f0))).setCell ⟨gb121, 1, none⟩ (.int .i64 ((rd_T102 l0_2 x4_3).f1))).setCell ⟨gb121, 2, none⟩ (.int .i64 ((rd_T102 l0_2 x4_3).f2))).setCell ⟨gb121, 3, none⟩ (.bool ((rd_T102 l0_2 x4_3).f3))).heap[gb114]? = some (.cells #[.int .i64 a0_0, .slice A0_1 l0_1.length c0_1, .slice (some ad120) l0_2.length c0_2] 31 (0, 0))) := ⟨by refine bz_ ?_; refine blk_far ?_ NB114_121.out _; refine bz_ ?_; refine blk_far ?_ NB114_121.out _; refine bz_ ?_; refine blk_far ?_ NB114_121.out _; refine bz_ ?_; refine blk_far ?_ NB114_121.out _; refine bz_ ?_; exact BK114.out⟩
           have n1_ : Aside0 (((((w51.setCell ⟨gb121, 0, none⟩ (.int .i64 ((rd_T102 l0_2 x4_3).f0))).setCell ⟨gb121, 1, none⟩ (.int .i64 ((rd_T102 l0_2 x4_3).f1))).setCell ⟨gb121, 2, none⟩ (.int .i64 ((rd_T102 l0_2 x4_3).f2))).setCell ⟨gb121, 3, none⟩ (.bool ((rd_T102 l0_2 x4_3).f3))).heap[gb121]? = some (.cells #[.int .i64 ((rd_T102 l0_2 x4_3).f0), .int .i64 ((rd_T102 l0_2 x4_3).f1), .int .i64 ((rd_T102 l0_2 x4_3).f2), .bool ((rd_T102 l0_2 x4_3).f3)] 102 (0, 0))) := ⟨by refine bz_ ?_; refine blk_put (cs := #[.int .i64 ((rd_T102 l0_2 x4_3).f0), .int .i64 ((rd_T102 l0_2 x4_3).f1), .int .i64 ((rd_T102 l0_2 x4_3).f2), .bool false]) ?_ 3 _ rfl; refine bz_ ?_; refine blk_put (cs := #[.int .i64 ((rd_T102 l0_2 x4_3).f0), .int .i64 ((rd_T102 l0_2 x4_3).f1), .int .i64 0, .bool false]) ?_ 2 _ rfl; refine bz_ ?_; refine blk_put (cs := #[.int .i64 ((rd_T102 l0_2 x4_3).f0), .int .i64 0, .int .i64 0, .bool false]) ?_ 1 _ rfl; refine bz_ ?_; refine blk_put (cs := #[.int .i64 0, .int .i64 0, .int .i64 0, .bool false]) ?_ 0 _ rfl; refine bz_ ?_; exact BK121.out⟩
           have n2_ : Aside0 (Below w.heap.size w ((((w51.setCell ⟨gb121, 0, none⟩ (.int .i64 ((rd_T102 l0_2 x4_3).f0))).setCell ⟨gb121, 1, none⟩ (.int .i64 ((rd_T102 l0_2 x4_3).f1))).setCell ⟨gb121, 2, none⟩ (.int .i64 ((rd_T102 l0_2 x4_3).f2))).setCell ⟨gb121, 3, none⟩ (.bool ((rd_T102 l0_2 x4_3).f3)))) := ⟨bw_q HB⟩
           (try clear BK114)
           (try clear BK121)
           (try clear HB)
           generalize ((((w51.setCell ⟨gb121, 0, none⟩ (.int .i64 ((rd_T102 l0_2 x4_3).f0))).setCell ⟨gb121, 1, none⟩ (.int .i64 ((rd_T102 l0_2 x4_3).f1))).setCell ⟨gb121, 2, none⟩ (.int .i64 ((rd_T102 l0_2 x4_3).f2))).setCell ⟨gb121, 3, none⟩ (.bool ((rd_T102 l0_2 x4_3).f3))) = w54 at n0_ n1_ n2_ ⊢
           have BK114 := n0_
           have BK121 := n1_
           have HB := n2_
           clear n0_ n1_ n2_
           replace BK114 := Aside0.mk (blk_drew BK114.out)
           replace BK121 := Aside0.mk (blk_drew BK121.out)
           replace HB := Aside0.mk (below_drew1 HB.out)
           refine start_ (n := 33) (S := fun w' => w'.cell? ⟨gb121, 0, none⟩ = some (.int .i64 ((rd_T102 l0_2 x4_3).f0)) ∧ w'.cell? ⟨gb121, 1, none⟩ = some (.int .i64 ((rd_T102 l0_2 x4_3).f1)) ∧ w'.cell? ⟨gb121, 2, none⟩ = some (.int .i64 ((rd_T102 l0_2 x4_3).f2)) ∧ w'.cell? ⟨gb121, 3, none⟩ = some (.bool ((rd_T102 l0_2 x4_3).f3)) ∧ w'.cell? ⟨gb114, 0, none⟩ = some (.int .i64 a0_0) ∧ w'.cell? ⟨gb114, 1, none⟩ = some (.slice A0_1 l0_1.length c0_1) ∧ w'.cell? ⟨gb114, 2, none⟩ = some (.slice (some ad120) l0_2.length c0_2)) (ds := []) (bL 33 0) (by kernel_rfl) rfl rfl ⟨(blk_cell BK121.out 0).trans rfl, (blk_cell BK121.out 1).trans rfl, (blk_cell BK121.out 2).trans rfl, (blk_cell BK121.out 3).trans rfl, (blk_cell BK114.out 0).trans rfl, (blk_cell BK114.out 1).trans rfl, (blk_cell BK114.out 2).trans rfl⟩ (fun hHeld => ?_); refine with_tabW spec_NetOk.tab12 spec_NetOk.bits12 (fun HT_ HW_ => ?_)
           generalize w54.drew = w55 at BK114 BK121 HB hHeld ⊢
           refine pq_ 0 69 (bL 33 1) HT_.out rfl rfl ?_
           refine pq_ 2 71 (bL 33 5) HT_.out rfl rfl ?_
           refine take_ (i := 1) (N := some 70) (v := ?_) (a' := ?_) (bL 33 7) rfl rfl (take_ofW HT_.out HW_.out (by kernel_rfl)) (fun _ _ _ h => h) (Or.inl ⟨by rfl, ?_⟩) hHeld ?_ ?_; rotate_left; (rintro w' ⟨s0, s1, s2, s3, s4, s5, s6⟩; go_simp; with_reducible rfl); rotate_left; (exact put_q)
           refine take_ (i := 3) (N := some 72) (v := ?_) (a' := ?_) (bL 33 15) rfl rfl (take_ofW HT_.out HW_.out (by kernel_rfl)) (fun _ _ _ h => h) (Or.inl ⟨by rfl, ?_⟩) hHeld ?_ ?_; rotate_left; (rintro w' ⟨s0, s1, s2, s3, s4, s5, s6⟩; go_simp; with_reducible rfl); rotate_left; (exact put_q)
           refine one_ (i := 4) (N := some 73) (bL 33 31) rfl rfl (one_of HT_.out (by kernel_rfl)) (by decide) (fun K hK => ?_)
           refine goes_ Try.func75 (by kernel_rfl) rfl #[.int .i64 ((rd_T102 l0_2 x4_3).f0), .int .i64 1, .int .i64 a0_0] (by rfl) rfl rfl mp_q ?_
           with_reducible refine (spec_l01In.calls ((rd_T102 l0_2 x4_3).f0) 1 a0_0 t122 _ A38.out).mono ?_
           rintro e w' ⟨rfl, ⟨nd, rfl⟩⟩
           refine ⟨_, rfl, ?_⟩
           refine hK.out _ _ ⟨(blk_cell BK121.out 0).trans rfl, (blk_cell BK121.out 1).trans rfl, (blk_cell BK121.out 2).trans rfl, (blk_cell BK121.out 3).trans rfl, (blk_cell BK114.out 0).trans rfl, (blk_cell BK114.out 1).trans rfl, (blk_cell BK114.out 2).trans rfl⟩ (fun hHeld => ?_)
           clear hK K
           refine norm_ (a' := ?_) ?_ ?_; rotate_left; (show Act.put _ (some 73) _ = _; simp only [Act.put, List.setIfInBounds_toArray, List.set_cons_zero, List.set_cons_succ, i64_w, i32_w]; rfl)
           refine pq_ 5 74 (bL 33 63) HT_.out rfl rfl ?_
           refine pq_ 6 75 (bL 33 127) HT_.out rfl rfl ?_
           have H := HZ30.out
           clear HZ30
           by_cases c39 : t122 = true
           ·subst c39
            have H1 : ((spec_l01In.f ((rd_T102 l0_2 x4_3).f1) 1 9).bind fun t123 => (if t123 = true then ((spec_l01In.f ((rd_T102 l0_2 x4_3).f2) 1 1000).bind fun t124 => (if t124 = true then (if x4_3 > 0 then (if 0 ≤ (wrap64 (x4_3 - 1)) then (if (wrap64 (x4_3 - 1)) < (l0_2.length : Int) then ((spec_l03Thing.f ((rd_T102 l0_2 (wrap64 (x4_3 - 1))).f0) ((rd_T102 l0_2 (wrap64 (x4_3 - 1))).f1) ((rd_T102 l0_2 (wrap64 (x4_3 - 1))).f2) ((rd_T102 l0_2 (wrap64 (x4_3 - 1))).f3) ((rd_T102 l0_2 x4_3).f0) ((rd_T102 l0_2 x4_3).f1) ((rd_T102 l0_2 x4_3).f2) ((rd_T102 l0_2 x4_3).f3)).bind fun t126 => (if t126 = true then (spec_NetOk.l1 k3 (wrap64 (x4_3 + 1)) a0_0 l0_1 l0_2) else (some false))) else (none)) else (none)) else (spec_NetOk.l1 k3 (wrap64 (x4_3 + 1)) a0_0 l0_1 l0_2)) else (some false))) else (some false))) = some r := by rw [if_pos rfl] at H; exact H
            clear H
            have H := H1
            clear H1
            replace H := Option.bind_eq_some_iff.mp H
            obtain ⟨t123, A400, H⟩ := H
            replace H : (if t123 = true then ((spec_l01In.f ((rd_T102 l0_2 x4_3).f2) 1 1000).bind fun t124 => (if t124 = true then (if x4_3 > 0 then (if 0 ≤ (wrap64 (x4_3 - 1)) then (if (wrap64 (x4_3 - 1)) < (l0_2.length : Int) then ((spec_l03Thing.f ((rd_T102 l0_2 (wrap64 (x4_3 - 1))).f0) ((rd_T102 l0_2 (wrap64 (x4_3 - 1))).f1) ((rd_T102 l0_2 (wrap64 (x4_3 - 1))).f2) ((rd_T102 l0_2 (wrap64 (x4_3 - 1))).f3) ((rd_T102 l0_2 x4_3).f0) ((rd_T102 l0_2 x4_3).f1) ((rd_T102 l0_2 x4_3).f2) ((rd_T102 l0_2 x4_3).f3)).bind fun t126 => (if t126 = true then (spec_NetOk.l1 k3 (wrap64 (x4_3 + 1)) a0_0 l0_1 l0_2) else (some false))) else (none)) else (none)) else (spec_NetOk.l1 k3 (wrap64 (x4_3 + 1)) a0_0 l0_1 l0_2)) else (some false))) else (some false)) = some r := H
            have A40 := Aside0.mk A400
            clear A400
            have HZ31 := Aside0.mk H
            clear H
            refine pq_ 7 76 (bL 33 255) HT_.out rfl rfl ?_
            refine take_ (i := 8) (N := some 77) (v := ?_) (a' := ?_) (bL 33 511) rfl rfl (take_ofW HT_.out HW_.out (by kernel_rfl)) (fun _ _ _ h => h) (Or.inl ⟨by rfl, ?_⟩) hHeld ?_ ?_; rotate_left; (rintro w' ⟨s0, s1, s2, s3, s4, s5, s6⟩; go_simp; with_reducible rfl); rotate_left; (exact put_q)
            refine one_ (i := 9) (N := some 78) (bL 33 1023) rfl rfl (one_of HT_.out (by kernel_rfl)) (by decide) (fun K hK => ?_)
            refine goes_ Try.func75 (by kernel_rfl) rfl #[.int .i64 ((rd_T102 l0_2 x4_3).f1), .int .i64 1, .int .i64 9] (by rfl) rfl rfl mp_q ?_
            with_reducible refine (spec_l01In.calls ((rd_T102 l0_2 x4_3).f1) 1 9 t123 _ A40.out).mono ?_
            rintro e w' ⟨rfl, ⟨nd, rfl⟩⟩
            refine ⟨_, rfl, ?_⟩
            refine hK.out _ _ ⟨(blk_cell BK121.out 0).trans rfl, (blk_cell BK121.out 1).trans rfl, (blk_cell BK121.out 2).trans rfl, (blk_cell BK121.out 3).trans rfl, (blk_cell BK114.out 0).trans rfl, (blk_cell BK114.out 1).trans rfl, (blk_cell BK114.out 2).trans rfl⟩ (fun hHeld => ?_)
            clear hK K
            refine norm_ (a' := ?_) ?_ ?_; rotate_left; (show Act.put _ (some 78) _ = _; simp only [Act.put, List.setIfInBounds_toArray, List.set_cons_zero, List.set_cons_succ, i64_w, i32_w]; rfl)
            refine pq_ 10 79 (bL 33 2047) HT_.out rfl rfl ?_
            refine pq_ 11 80 (bL 33 4095) HT_.out rfl rfl ?_
            refine pq_ 12 81 (bL 33 8191) HT_.out rfl rfl ?_
            have H := HZ31.out
            clear HZ31
            by_cases c41 : t123 = true
            ·subst c41
             have H1 : ((spec_l01In.f ((rd_T102 l0_2 x4_3).f2) 1 1000).bind fun t124 => (if t124 = true then (if x4_3 > 0 then (if 0 ≤ (wrap64 (x4_3 - 1)) then (if (wrap64 (x4_3 - 1)) < (l0_2.length : Int) then ((spec_l03Thing.f ((rd_T102 l0_2 (wrap64 (x4_3 - 1))).f0) ((rd_T102 l0_2 (wrap64 (x4_3 - 1))).f1) ((rd_T102 l0_2 (wrap64 (x4_3 - 1))).f2) ((rd_T102 l0_2 (wrap64 (x4_3 - 1))).f3) ((rd_T102 l0_2 x4_3).f0) ((rd_T102 l0_2 x4_3).f1) ((rd_T102 l0_2 x4_3).f2) ((rd_T102 l0_2 x4_3).f3)).bind fun t126 => (if t126 = true then (spec_NetOk.l1 k3 (wrap64 (x4_3 + 1)) a0_0 l0_1 l0_2) else (some false))) else (none)) else (none)) else (spec_NetOk.l1 k3 (wrap64 (x4_3 + 1)) a0_0 l0_1 l0_2)) else (some false))) = some r := by rw [if_pos rfl] at H; exact H
             clear H
             have H := H1
             clear H1
             replace H := Option.bind_eq_some_iff.mp H
             obtain ⟨t124, A420, H⟩ := H
             replace H : (if t124 = true then (if x4_3 > 0 then (if 0 ≤ (wrap64 (x4_3 - 1)) then (if (wrap64 (x4_3 - 1)) < (l0_2.length : Int) then ((spec_l03Thing.f ((rd_T102 l0_2 (wrap64 (x4_3 - 1))).f0) ((rd_T102 l0_2 (wrap64 (x4_3 - 1))).f1) ((rd_T102 l0_2 (wrap64 (x4_3 - 1))).f2) ((rd_T102 l0_2 (wrap64 (x4_3 - 1))).f3) ((rd_T102 l0_2 x4_3).f0) ((rd_T102 l0_2 x4_3).f1) ((rd_T102 l0_2 x4_3).f2) ((rd_T102 l0_2 x4_3).f3)).bind fun t126 => (if t126 = true then (spec_NetOk.l1 k3 (wrap64 (x4_3 + 1)) a0_0 l0_1 l0_2) else (some false))) else (none)) else (none)) else (spec_NetOk.l1 k3 (wrap64 (x4_3 + 1)) a0_0 l0_1 l0_2)) else (some false)) = some r := H
             have A42 := Aside0.mk A420
             clear A420
             have HZ32 := Aside0.mk H
             clear H
             refine pq_ 13 82 (bL 33 16383) HT_.out rfl rfl ?_
             refine take_ (i := 14) (N := some 83) (v := ?_) (a' := ?_) (bL 33 32767) rfl rfl (take_ofW HT_.out HW_.out (by kernel_rfl)) (fun _ _ _ h => h) (Or.inl ⟨by rfl, ?_⟩) hHeld ?_ ?_; rotate_left; (rintro w' ⟨s0, s1, s2, s3, s4, s5, s6⟩; go_simp; with_reducible rfl); rotate_left; (exact put_q)
             refine one_ (i := 15) (N := some 84) (bL 33 65535) rfl rfl (one_of HT_.out (by kernel_rfl)) (by decide) (fun K hK => ?_)
             refine goes_ Try.func75 (by kernel_rfl) rfl #[.int .i64 ((rd_T102 l0_2 x4_3).f2), .int .i64 1, .int .i64 1000] (by rfl) rfl rfl mp_q ?_
             with_reducible refine (spec_l01In.calls ((rd_T102 l0_2 x4_3).f2) 1 1000 t124 _ A42.out).mono ?_
             rintro e w' ⟨rfl, ⟨nd, rfl⟩⟩
             refine ⟨_, rfl, ?_⟩
             refine hK.out _ _ ⟨(blk_cell BK121.out 0).trans rfl, (blk_cell BK121.out 1).trans rfl, (blk_cell BK121.out 2).trans rfl, (blk_cell BK121.out 3).trans rfl, (blk_cell BK114.out 0).trans rfl, (blk_cell BK114.out 1).trans rfl, (blk_cell BK114.out 2).trans rfl⟩ (fun hHeld => ?_)
             clear hK K
             refine norm_ (a' := ?_) ?_ ?_; rotate_left; (show Act.put _ (some 84) _ = _; simp only [Act.put, List.setIfInBounds_toArray, List.set_cons_zero, List.set_cons_succ, i64_w, i32_w]; rfl)
             refine pq_ 16 85 (bL 33 131071) HT_.out rfl rfl ?_
             refine pq_ 17 86 (bL 33 262143) HT_.out rfl rfl ?_
             refine pq_ 18 87 (bL 33 524287) HT_.out rfl rfl ?_
             have H := HZ32.out
             clear HZ32
             by_cases c43 : t124 = true
             ·subst c43
              have H1 : (if x4_3 > 0 then (if 0 ≤ (wrap64 (x4_3 - 1)) then (if (wrap64 (x4_3 - 1)) < (l0_2.length : Int) then ((spec_l03Thing.f ((rd_T102 l0_2 (wrap64 (x4_3 - 1))).f0) ((rd_T102 l0_2 (wrap64 (x4_3 - 1))).f1) ((rd_T102 l0_2 (wrap64 (x4_3 - 1))).f2) ((rd_T102 l0_2 (wrap64 (x4_3 - 1))).f3) ((rd_T102 l0_2 x4_3).f0) ((rd_T102 l0_2 x4_3).f1) ((rd_T102 l0_2 x4_3).f2) ((rd_T102 l0_2 x4_3).f3)).bind fun t126 => (if t126 = true then (spec_NetOk.l1 k3 (wrap64 (x4_3 + 1)) a0_0 l0_1 l0_2) else (some false))) else (none)) else (none)) else (spec_NetOk.l1 k3 (wrap64 (x4_3 + 1)) a0_0 l0_1 l0_2)) = some r := by rw [if_pos rfl] at H; exact H
              clear H
              have H := H1
              clear H1
              have HZ33 := Aside0.mk H
              clear H
              refine pq_ 19 88 (bL 33 1048575) HT_.out rfl rfl ?_
              refine pq_ 20 89 (bL 33 2097151) HT_.out rfl rfl ?_
              refine pq_ 21 90 (bL 33 4194303) HT_.out rfl rfl ?_
              have H := HZ33.out
              clear HZ33
              by_cases c44 : x4_3 > 0
              ·rw [if_pos c44] at H
               have c44b0 : decide (0 < x4_3) = true := decide_eq_true c44
               (first | rw [c44b0] | (simp only [i64_w, i32_w]; first | rw [c44b0]) | skip)
               clear c44
               obtain ⟨ji45, hji45⟩ : ∃ j_ : Int, (wrap64 (x4_3 - 1)) = j_ := ⟨_, rfl⟩
               replace H : (if 0 ≤ (ji45) then (if (ji45) < (l0_2.length : Int) then ((spec_l03Thing.f ((rd_T102 l0_2 (ji45)).f0) ((rd_T102 l0_2 (ji45)).f1) ((rd_T102 l0_2 (ji45)).f2) ((rd_T102 l0_2 (ji45)).f3) ((rd_T102 l0_2 x4_3).f0) ((rd_T102 l0_2 x4_3).f1) ((rd_T102 l0_2 x4_3).f2) ((rd_T102 l0_2 x4_3).f3)).bind fun t126 => (if t126 = true then (spec_NetOk.l1 k3 (wrap64 (x4_3 + 1)) a0_0 l0_1 l0_2) else (some false))) else (none)) else (none)) = some r := by first | (rw [hji45] at H; exact H) | (simp only [hji45] at H ⊢; exact H)
               (try rw [hji45] at A38)
               (try rw [hji45] at A40)
               (try rw [hji45] at A42)
               have hji45w : (IntKind.i64.wrap (x4_3 - 1)) = ji45 := (i64_w _).trans hji45
               by_cases c46 : 0 ≤ (ji45)
               ·rw [if_pos c46] at H
                have c46b0 : decide (0 ≤ (ji45)) = true := decide_eq_true c46
                clear c46
                by_cases c47 : (ji45) < (l0_2.length : Int)
                ·rw [if_pos c47] at H
                 have c47b0 : decide ((ji45) < (l0_2.length : Int)) = true := decide_eq_true c47
                 clear c47
                 replace H := Option.bind_eq_some_iff.mp H
                 obtain ⟨t126, A480, H⟩ := H
                 replace H : (if t126 = true then (spec_NetOk.l1 k3 (wrap64 (x4_3 + 1)) a0_0 l0_1 l0_2) else (some false)) = some r := H
                 have A48 := Aside0.mk A480
                 clear A480
                 have HZ34 := Aside0.mk H
                 clear H
                 have p125 : 0 ≤ ((ji45) : Int) := of_decide_eq_true as_q
                 have q125 : (ji45) < (l0_2.length : Int) := of_decide_eq_true as_q
                 obtain ⟨ad125, e125, hx125_0, hx125_1, hx125_2, hx125_3⟩ := at_T102 HR0_2.out (ji45) p125 q125
                 have hw125_3 := hx125_3
                 have hw125_2 := hx125_2
                 have hw125_1 := hx125_1
                 have hw125_0 := hx125_0
                 obtain rfl : ad120 = ad125 := (by injection e125)
                 replace hx125_0 := (HB.out.cell (World.block_lt_of_cell? w _ hx125_0)).trans hx125_0
                 replace hx125_1 := (HB.out.cell (World.block_lt_of_cell? w _ hx125_1)).trans hx125_1
                 replace hx125_2 := (HB.out.cell (World.block_lt_of_cell? w _ hx125_2)).trans hx125_2
                 replace hx125_3 := (HB.out.cell (World.block_lt_of_cell? w _ hx125_3)).trans hx125_3
                 replace p125 := eq_true p125
                 replace q125 := eq_true q125
                 refine last_weaken (fun w' => w'.cell? ⟨gb121, 0, none⟩ = some (.int .i64 ((rd_T102 l0_2 x4_3).f0)) ∧ w'.cell? ⟨gb121, 1, none⟩ = some (.int .i64 ((rd_T102 l0_2 x4_3).f1)) ∧ w'.cell? ⟨gb121, 2, none⟩ = some (.int .i64 ((rd_T102 l0_2 x4_3).f2)) ∧ w'.cell? ⟨gb121, 3, none⟩ = some (.bool ((rd_T102 l0_2 x4_3).f3)) ∧ w'.cell? ⟨gb114, 0, none⟩ = some (.int .i64 a0_0) ∧ w'.cell? ⟨gb114, 1, none⟩ = some (.slice A0_1 l0_1.length c0_1) ∧ w'.cell? ⟨gb114, 2, none⟩ = some (.slice (some ad120) l0_2.length c0_2) ∧ w'.cell? (ad120.add (((ji45)).toNat * 4)) = some (.int .i64 ((rd_T102 l0_2 (ji45)).f0)) ∧ w'.cell? ⟨(ad120.add (((ji45)).toNat * 4)).block, (ad120.add (((ji45)).toNat * 4)).off + 1, none⟩ = some (.int .i64 ((rd_T102 l0_2 (ji45)).f1)) ∧ w'.cell? ⟨(ad120.add (((ji45)).toNat * 4)).block, (ad120.add (((ji45)).toNat * 4)).off + 2, none⟩ = some (.int .i64 ((rd_T102 l0_2 (ji45)).f2)) ∧ w'.cell? ⟨(ad120.add (((ji45)).toNat * 4)).block, (ad120.add (((ji45)).toNat * 4)).off + 3, none⟩ = some (.bool ((rd_T102 l0_2 (ji45)).f3))) (fun w' h_ => ⟨h_.1, h_.2.1, h_.2.2.1, h_.2.2.2.1, h_.2.2.2.2.1, h_.2.2.2.2.2.1, h_.2.2.2.2.2.2.1⟩) ⟨hHeld.1, hHeld.2.1, hHeld.2.2.1, hHeld.2.2.2.1, hHeld.2.2.2.2.1, hHeld.2.2.2.2.2.1, hHeld.2.2.2.2.2.2, (by first | assumption | exact ((HB.out.cell (World.block_lt_of_cell? w _ hw125_0)).trans hw125_0)), (by first | assumption | exact ((HB.out.cell (World.block_lt_of_cell? w _ hw125_1)).trans hw125_1)), (by first | assumption | exact ((HB.out.cell (World.block_lt_of_cell? w _ hw125_2)).trans hw125_2)), (by first | assumption | exact ((HB.out.cell (World.block_lt_of_cell? w _ hw125_3)).trans hw125_3))⟩ (fun hHeld => ?_)
                 refine pq_ 22 91 (bL 33 8388607) HT_.out rfl rfl ?_
                 refine pq_ 24 93 (bL 33 25165823) HT_.out rfl rfl ?_
                 refine pq_ 25 94 (bL 33 58720255) HT_.out rfl rfl ?_
                 refine take_ (i := 23) (N := some 92) (v := ?_) (a' := ?_) (bL 33 67108863) rfl rfl (take_ofW HT_.out HW_.out (by kernel_rfl)) (fun _ _ _ h => h) (Or.inl ⟨by rfl, ?_⟩) hHeld ?_ ?_; rotate_left; (rintro w' ⟨s0, s1, s2, s3, s4, s5, s6, s7, s8, s9, s10⟩; go_simp; with_reducible rfl); rotate_left; (exact put_q)
                 refine pq_ 26 95 (bL 33 134217727) HT_.out rfl rfl ?_
                 refine take_ (i := 27) (N := some 96) (v := ?_) (a' := ?_) (bL 33 268435455) rfl rfl (take_ofW HT_.out HW_.out (by kernel_rfl)) (fun _ _ _ h => h) (Or.inl ⟨by rfl, ?_⟩) hHeld ?_ ?_; rotate_left; (rintro w' ⟨s0, s1, s2, s3, s4, s5, s6, s7, s8, s9, s10⟩; go_simp; with_reducible rfl); rotate_left; (exact put_q)
                 refine take_ (i := 28) (N := some 97) (v := ?_) (a' := ?_) (bL 33 536870911) rfl rfl (take_ofW HT_.out HW_.out (by kernel_rfl)) (fun _ _ _ h => h) (Or.inl ⟨by rfl, ?_⟩) hHeld ?_ ?_; rotate_left; (rintro w' ⟨s0, s1, s2, s3, s4, s5, s6, s7, s8, s9, s10⟩; go_simp; with_reducible rfl); rotate_left; (exact put_q)
                 refine one_ (i := 29) (N := some 98) (bL 33 1073741823) rfl rfl (one_of HT_.out (by kernel_rfl)) (by decide) (fun K hK => ?_)
                 refine goes_ Try.func78 (by kernel_rfl) rfl #[.agg #[.int .i64 ((rd_T102 l0_2 (ji45)).f0), .int .i64 ((rd_T102 l0_2 (ji45)).f1), .int .i64 ((rd_T102 l0_2 (ji45)).f2), .bool ((rd_T102 l0_2 (ji45)).f3)], .agg #[.int .i64 ((rd_T102 l0_2 x4_3).f0), .int .i64 ((rd_T102 l0_2 x4_3).f1), .int .i64 ((rd_T102 l0_2 x4_3).f2), .bool ((rd_T102 l0_2 x4_3).f3)]] (by rfl) rfl rfl (by (try simp only [List.map_toArray, List.map_cons, List.map_nil]); first | done | (simp only [hji45]; rfl) | rfl | (simp only [List.length_drop, List.length_take]; rfl)) ?_
                 with_reducible refine (spec_l03Thing.calls ((rd_T102 l0_2 (ji45)).f0) ((rd_T102 l0_2 (ji45)).f1) ((rd_T102 l0_2 (ji45)).f2) ((rd_T102 l0_2 (ji45)).f3) ((rd_T102 l0_2 x4_3).f0) ((rd_T102 l0_2 x4_3).f1) ((rd_T102 l0_2 x4_3).f2) ((rd_T102 l0_2 x4_3).f3) t126 _ A48.out).mono ?_
                 rintro e w56 ⟨rfl, hb⟩
                 refine ⟨_, rfl, ?_⟩
                 replace BK114 := Aside0.mk (blk_below (g := gb114) (bk_q BK114) hb)
                 replace BK121 := Aside0.mk (blk_below (g := gb121) (bk_q BK121) hb)
                 replace HB := Aside0.mk (below_step (bw_q HB) hb)
                 (try clear hb)
                 (try clear hb2)
                 (try clear hk)
                 (try clear hi)
                 refine hK.out _ _ ⟨(blk_cell BK121.out 0).trans rfl, (blk_cell BK121.out 1).trans rfl, (blk_cell BK121.out 2).trans rfl, (blk_cell BK121.out 3).trans rfl, (blk_cell BK114.out 0).trans rfl, (blk_cell BK114.out 1).trans rfl, (blk_cell BK114.out 2).trans rfl, ((HB.out.cell (World.block_lt_of_cell? w _ hw125_0)).trans hw125_0), ((HB.out.cell (World.block_lt_of_cell? w _ hw125_1)).trans hw125_1), ((HB.out.cell (World.block_lt_of_cell? w _ hw125_2)).trans hw125_2), ((HB.out.cell (World.block_lt_of_cell? w _ hw125_3)).trans hw125_3)⟩ (fun hHeld => ?_)
                 clear hK K
                 refine norm_ (a' := ?_) ?_ ?_; rotate_left; (show Act.put _ (some 98) _ = _; simp only [Act.put, List.setIfInBounds_toArray, List.set_cons_zero, List.set_cons_succ, i64_w, i32_w]; rfl)
                 refine pq_ 30 99 (bL 33 2147483647) HT_.out rfl rfl ?_
                 refine pq_ 31 100 (bL 33 4294967295) HT_.out rfl rfl ?_
                 refine pq_ 32 101 (bL 33 8589934591) HT_.out rfl rfl ?_
                 have H := HZ34.out
                 clear HZ34
                 by_cases c49 : t126 = true
                 ·subst c49
                  have H1 : (spec_NetOk.l1 k3 (wrap64 (x4_3 + 1)) a0_0 l0_1 l0_2) = some r := by rw [if_pos rfl] at H; exact H
                  clear H
                  have H := H1
                  clear H1
                  have H' := Aside0.mk H
                  clear H
                  refine done_ (done_of HT_.out (by kernel_rfl)) ?_
                  try go_wp2
                  go_roundg k3
                  case measure => have := HJ1.out; have := HK2.out; have := HK3.out; omega
                  case rel => exact ⟨(wrap64 (x4_3 + 1)), (by first | rfl | (simp; done) | (simp [*]; done)), H', ⟨by have := HJ1.out; have := HK2.out; have := HK3.out; omega⟩, ⟨by refine bz_ ?_; exact BK114.out⟩, ⟨bw_q HB⟩⟩
                 ·replace c49 := Bool.eq_false_iff.mpr c49
                  subst c49
                  have H1 : (some false) = some r := by rw [if_neg (show ¬ (false = true) by decide)] at H; exact H
                  clear H
                  have H := H1
                  clear H1
                  obtain rfl := Option.some.inj H
                  refine done_ (done_of HT_.out (by kernel_rfl)) ?_
                  try go_wp2
                  go_ret
                  exact ⟨by first | rfl | (simp [errW_none, errW_some] <;> rfl) | (simp only [← hji45]; first | rfl | (simp [errW_none, errW_some] <;> rfl)) | (simp [*, errW_none, errW_some] <;> rfl), bw_q HB⟩
                ·rw [if_neg c47] at H
                 exact absurd H (by simp)
               ·rw [if_neg c46] at H
                exact absurd H (by simp)
              ·rw [if_neg c44] at H
               have c44b0 : decide (0 < x4_3) = false := decide_eq_false c44
               (first | rw [c44b0] | (simp only [i64_w, i32_w]; first | rw [c44b0]) | skip)
               clear c44
               have H' := Aside0.mk H
               clear H
               refine pu_ 22 91 (bL 33 8388607) HT_.out rfl rfl ?_
               refine pu_ 23 92 (bL 33 16777215) HT_.out rfl rfl ?_
               refine pu_ 24 93 (bL 33 33554431) HT_.out rfl rfl ?_
               refine pu_ 25 94 (bL 33 67108863) HT_.out rfl rfl ?_
               refine pu_ 26 95 (bL 33 134217727) HT_.out rfl rfl ?_
               refine pu_ 27 96 (bL 33 268435455) HT_.out rfl rfl ?_
               refine pu_ 28 97 (bL 33 536870911) HT_.out rfl rfl ?_
               refine pu_ 29 98 (bL 33 1073741823) HT_.out rfl rfl ?_
               refine pu_ 30 99 (bL 33 2147483647) HT_.out rfl rfl ?_
               refine pq_ 31 100 (bL 33 4294967295) HT_.out rfl rfl ?_
               refine pq_ 32 101 (bL 33 8589934591) HT_.out rfl rfl ?_
               refine done_ (done_of HT_.out (by kernel_rfl)) ?_
               try go_wp2
               go_roundg k3
               case measure => have := HJ1.out; have := HK2.out; have := HK3.out; omega
               case rel => exact ⟨(wrap64 (x4_3 + 1)), (by first | rfl | (simp; done) | (simp [*]; done)), H', ⟨by have := HJ1.out; have := HK2.out; have := HK3.out; omega⟩, ⟨by refine bz_ ?_; exact BK114.out⟩, ⟨bw_q HB⟩⟩
             ·replace c43 := Bool.eq_false_iff.mpr c43
              subst c43
              have H1 : (some false) = some r := by rw [if_neg (show ¬ (false = true) by decide)] at H; exact H
              clear H
              have H := H1
              clear H1
              obtain rfl := Option.some.inj H
              refine pu_ 19 88 (bL 33 1048575) HT_.out rfl rfl ?_
              refine pu_ 20 89 (bL 33 2097151) HT_.out rfl rfl ?_
              refine pu_ 21 90 (bL 33 4194303) HT_.out rfl rfl ?_
              refine pu_ 22 91 (bL 33 8388607) HT_.out rfl rfl ?_
              refine pu_ 23 92 (bL 33 16777215) HT_.out rfl rfl ?_
              refine pu_ 24 93 (bL 33 33554431) HT_.out rfl rfl ?_
              refine pu_ 25 94 (bL 33 67108863) HT_.out rfl rfl ?_
              refine pu_ 26 95 (bL 33 134217727) HT_.out rfl rfl ?_
              refine pu_ 27 96 (bL 33 268435455) HT_.out rfl rfl ?_
              refine pu_ 28 97 (bL 33 536870911) HT_.out rfl rfl ?_
              refine pu_ 29 98 (bL 33 1073741823) HT_.out rfl rfl ?_
              refine pu_ 30 99 (bL 33 2147483647) HT_.out rfl rfl ?_
              refine pu_ 31 100 (bL 33 4294967295) HT_.out rfl rfl ?_
              refine pq_ 32 101 (bL 33 8589934591) HT_.out rfl rfl ?_
              refine done_ (done_of HT_.out (by kernel_rfl)) ?_
              try go_wp2
              go_ret
              exact ⟨er_q, bw_q HB⟩
            ·replace c41 := Bool.eq_false_iff.mpr c41
             subst c41
             have H1 : (some false) = some r := by rw [if_neg (show ¬ (false = true) by decide)] at H; exact H
             clear H
             have H := H1
             clear H1
             obtain rfl := Option.some.inj H
             refine pu_ 13 82 (bL 33 16383) HT_.out rfl rfl ?_
             refine pu_ 14 83 (bL 33 32767) HT_.out rfl rfl ?_
             refine pu_ 15 84 (bL 33 65535) HT_.out rfl rfl ?_
             refine pu_ 16 85 (bL 33 131071) HT_.out rfl rfl ?_
             refine pq_ 17 86 (bL 33 262143) HT_.out rfl rfl ?_
             refine pq_ 18 87 (bL 33 524287) HT_.out rfl rfl ?_
             refine pu_ 19 88 (bL 33 1048575) HT_.out rfl rfl ?_
             refine pu_ 20 89 (bL 33 2097151) HT_.out rfl rfl ?_
             refine pu_ 21 90 (bL 33 4194303) HT_.out rfl rfl ?_
             refine pu_ 22 91 (bL 33 8388607) HT_.out rfl rfl ?_
             refine pu_ 23 92 (bL 33 16777215) HT_.out rfl rfl ?_
             refine pu_ 24 93 (bL 33 33554431) HT_.out rfl rfl ?_
             refine pu_ 25 94 (bL 33 67108863) HT_.out rfl rfl ?_
             refine pu_ 26 95 (bL 33 134217727) HT_.out rfl rfl ?_
             refine pu_ 27 96 (bL 33 268435455) HT_.out rfl rfl ?_
             refine pu_ 28 97 (bL 33 536870911) HT_.out rfl rfl ?_
             refine pu_ 29 98 (bL 33 1073741823) HT_.out rfl rfl ?_
             refine pu_ 30 99 (bL 33 2147483647) HT_.out rfl rfl ?_
             refine pu_ 31 100 (bL 33 4294967295) HT_.out rfl rfl ?_
             refine pq_ 32 101 (bL 33 8589934591) HT_.out rfl rfl ?_
             refine done_ (done_of HT_.out (by kernel_rfl)) ?_
             try go_wp2
             go_ret
             exact ⟨er_q, bw_q HB⟩
           ·replace c39 := Bool.eq_false_iff.mpr c39
            subst c39
            have H1 : (some false) = some r := by rw [if_neg (show ¬ (false = true) by decide)] at H; exact H
            clear H
            have H := H1
            clear H1
            obtain rfl := Option.some.inj H
            refine pu_ 7 76 (bL 33 255) HT_.out rfl rfl ?_
            refine pu_ 8 77 (bL 33 511) HT_.out rfl rfl ?_
            refine pu_ 9 78 (bL 33 1023) HT_.out rfl rfl ?_
            refine pu_ 10 79 (bL 33 2047) HT_.out rfl rfl ?_
            refine pq_ 11 80 (bL 33 4095) HT_.out rfl rfl ?_
            refine pq_ 12 81 (bL 33 8191) HT_.out rfl rfl ?_
            refine pu_ 13 82 (bL 33 16383) HT_.out rfl rfl ?_
            refine pu_ 14 83 (bL 33 32767) HT_.out rfl rfl ?_
            refine pu_ 15 84 (bL 33 65535) HT_.out rfl rfl ?_
            refine pu_ 16 85 (bL 33 131071) HT_.out rfl rfl ?_
            refine pq_ 17 86 (bL 33 262143) HT_.out rfl rfl ?_
            refine pq_ 18 87 (bL 33 524287) HT_.out rfl rfl ?_
            refine pu_ 19 88 (bL 33 1048575) HT_.out rfl rfl ?_
            refine pu_ 20 89 (bL 33 2097151) HT_.out rfl rfl ?_
            refine pu_ 21 90 (bL 33 4194303) HT_.out rfl rfl ?_
            refine pu_ 22 91 (bL 33 8388607) HT_.out rfl rfl ?_
            refine pu_ 23 92 (bL 33 16777215) HT_.out rfl rfl ?_
            refine pu_ 24 93 (bL 33 33554431) HT_.out rfl rfl ?_
            refine pu_ 25 94 (bL 33 67108863) HT_.out rfl rfl ?_
            refine pu_ 26 95 (bL 33 134217727) HT_.out rfl rfl ?_
            refine pu_ 27 96 (bL 33 268435455) HT_.out rfl rfl ?_
            refine pu_ 28 97 (bL 33 536870911) HT_.out rfl rfl ?_
            refine pu_ 29 98 (bL 33 1073741823) HT_.out rfl rfl ?_
            refine pu_ 30 99 (bL 33 2147483647) HT_.out rfl rfl ?_
            refine pu_ 31 100 (bL 33 4294967295) HT_.out rfl rfl ?_
            refine pq_ 32 101 (bL 33 8589934591) HT_.out rfl rfl ?_
            refine done_ (done_of HT_.out (by kernel_rfl)) ?_
            try go_wp2
            go_ret
            exact ⟨er_q, bw_q HB⟩
          ·rw [if_neg c37] at H
           exact absurd H (by simp)
         ·rw [if_neg c36] at H
          have c36b0 : decide (x4_3 < (l0_2.length : Int)) = false := decide_eq_false c36
          clear c36
          obtain rfl := Option.some.inj H
          obtain ⟨hcz88_0, hcz88_1, hcz88_2⟩ := cz3_ BK114
          obtain ⟨hfz88_0, hfz88_1, hfz88_2⟩ := fz3_ BK114
          go_wp2
          go_ret
          exact ⟨er_q, bw_q HB⟩

end Go.Proofs.Ythjmdiggglkeaaa.Q
