import Derived.Test.YthjmdiggglkeaaaXFnNetsQimplless
/- A Go function as a Lean function, and its contract: for every input the Go code comes to what the Lean function tells. -/





namespace Go.Proofs.Ythjmdiggglkeaaa.Q
open Go.RowKit Go.Proofs.YthjmdiggglkeaaaW.PrintWords Go.Proofs.YthjmdiggglkeaaaW.PrintLast Go.Proofs.YthjmdiggglkeaaaW.PrintMore
attribute [local go_sem] max2_int min2_int max_two min_two max_three min_three max_four min_four   -- for this text's walks alone
set_option linter.unusedVariables false
set_option linter.unusedSimpArgs false

/-! ### impl_NetOk: function 18 -/
mutual
def impl_NetOk.j0 : Nat → Bool → Int → List (S93) → List (S102) → Option (Bool)
 | 0, _, _, _, _ => none
 | k + 1, x22, x171000, x171001, x171002 => if x22 = true then (some false) else (impl_NetOk.l0 k x171001 (x171001.length : Int) 0 x171000 x171001 x171002)
def impl_NetOk.l0 : Nat → List (S93) → Int → Int → Int → List (S93) → List (S102) → Option (Bool)
 | 0, _, _, _, _, _, _ => none
 | k + 1, x24, x25, x26, x171000, x171001, x171002 => if x26 < x25 then (if 0 ≤ x26 then (if x26 < (x24.length : Int) then ((impl_LinkOk.f x171000 ((rd_T93 x24 x26).f0) ((rd_T93 x24 x26).f1) ((rd_T93 x24 x26).f2) ((rd_T93 x24 x26).f3)).bind fun t174 => (if t174 = true then (if x26 > 0 then (if 0 ≤ (wrap64 (x26 - 1)) then (if (wrap64 (x26 - 1)) < (x171001.length : Int) then ((impl_ahead.f ((rd_T93 x171001 (wrap64 (x26 - 1))).f0) ((rd_T93 x171001 (wrap64 (x26 - 1))).f1) ((rd_T93 x171001 (wrap64 (x26 - 1))).f2) ((rd_T93 x171001 (wrap64 (x26 - 1))).f3) ((rd_T93 x24 x26).f0) ((rd_T93 x24 x26).f1) ((rd_T93 x24 x26).f2) ((rd_T93 x24 x26).f3)).bind fun t176 => (if t176 = true then (impl_NetOk.l0 k x24 x25 (wrap64 (x26 + 1)) x171000 x171001 x171002) else (some false))) else (none)) else (none)) else (impl_NetOk.l0 k x24 x25 (wrap64 (x26 + 1)) x171000 x171001 x171002)) else (some false))) else (none)) else (none)) else (impl_NetOk.l1 k x171002 (x171002.length : Int) 0 x171000 x171001 x171002)
def impl_NetOk.l1 : Nat → List (S102) → Int → Int → Int → List (S93) → List (S102) → Option (Bool)
 | 0, _, _, _, _, _, _ => none
 | k + 1, x53, x54, x55, x171000, x171001, x171002 => if x55 < x54 then (if 0 ≤ x55 then (if x55 < (x53.length : Int) then ((impl_in.f ((rd_T102 x53 x55).f1) 1 9).bind fun t179 => (if t179 = true then ((impl_in.f ((rd_T102 x53 x55).f0) 1 x171000).bind fun t180 => (if t180 = true then ((impl_in.f ((rd_T102 x53 x55).f2) 1 1000).bind fun t181 => (if t181 = true then (if x55 > 0 then (if 0 ≤ (wrap64 (x55 - 1)) then (if (wrap64 (x55 - 1)) < (x171002.length : Int) then ((impl_less.f ((rd_T102 x171002 (wrap64 (x55 - 1))).f0) ((rd_T102 x171002 (wrap64 (x55 - 1))).f1) ((rd_T102 x171002 (wrap64 (x55 - 1))).f2) ((rd_T102 x171002 (wrap64 (x55 - 1))).f3) ((rd_T102 x53 x55).f0) ((rd_T102 x53 x55).f1) ((rd_T102 x53 x55).f2) ((rd_T102 x53 x55).f3)).bind fun t183 => (if t183 = true then (impl_NetOk.l1 k x53 x54 (wrap64 (x55 + 1)) x171000 x171001 x171002) else (some false))) else (none)) else (none)) else (impl_NetOk.l1 k x53 x54 (wrap64 (x55 + 1)) x171000 x171001 x171002)) else (some false))) else (some false))) else (some false))) else (none)) else (none)) else (some true)
end
def impl_NetOk.f (k : Nat) (a0_0 : Int) (l0_1 : List (S93)) (l0_2 : List (S102)) : Option (Bool) := (impl_in.f a0_0 1 6).bind fun t171 => (if t171 = true then (if (l0_1.length : Int) > 12 then (impl_NetOk.j0 k true a0_0 l0_1 l0_2) else (impl_NetOk.j0 k (decide ((l0_2.length : Int) > 4)) a0_0 l0_1 l0_2)) else (impl_NetOk.j0 k true a0_0 l0_1 l0_2))
theorem impl_NetOk.mono_l : ∀ k, (∀ y0 y1 y2 y3, LeO (impl_NetOk.j0 k y0 y1 y2 y3) (impl_NetOk.j0 (k + 1) y0 y1 y2 y3)) ∧ (∀ y0 y1 y2 y3 y4 y5, LeO (impl_NetOk.l0 k y0 y1 y2 y3 y4 y5) (impl_NetOk.l0 (k + 1) y0 y1 y2 y3 y4 y5)) ∧ (∀ y0 y1 y2 y3 y4 y5, LeO (impl_NetOk.l1 k y0 y1 y2 y3 y4 y5) (impl_NetOk.l1 (k + 1) y0 y1 y2 y3 y4 y5))
 | 0 => ⟨fun _ _ _ _ r h => by simp [impl_NetOk.j0] at h, fun _ _ _ _ _ _ r h => by simp [impl_NetOk.l0] at h, fun _ _ _ _ _ _ r h => by simp [impl_NetOk.l1] at h⟩
 | k + 1 => by
  obtain ⟨ih0, ih1, ih2⟩ := impl_NetOk.mono_l k
  refine ⟨?_, ?_, ?_⟩
  ·intro y0 y1 y2 y3
   unfold impl_NetOk.j0
   repeat' first
   | (with_reducible exact ih0 _ _ _ _)
   | (with_reducible exact ih1 _ _ _ _ _ _)
   | (with_reducible exact ih2 _ _ _ _ _ _)
   | (with_reducible exact LeO.refl _)
   | (with_reducible exact LeO.none _)
   | (with_reducible refine LeO.ite ?_ ?_)
   | (with_reducible refine LeO.bind ?_ (fun _ => ?_))
   | exact ih0 _ _ _ _
   | exact ih1 _ _ _ _ _ _
   | exact ih2 _ _ _ _ _ _
   | exact LeO.none _
   | refine LeO.ite ?_ ?_
   | refine LeO.bind ?_ (fun _ => ?_)
  ·intro y0 y1 y2 y3 y4 y5
   unfold impl_NetOk.l0
   repeat' first
   | (with_reducible exact ih0 _ _ _ _)
   | (with_reducible exact ih1 _ _ _ _ _ _)
   | (with_reducible exact ih2 _ _ _ _ _ _)
   | (with_reducible exact LeO.refl _)
   | (with_reducible exact LeO.none _)
   | (with_reducible refine LeO.ite ?_ ?_)
   | (with_reducible refine LeO.bind ?_ (fun _ => ?_))
   | exact ih0 _ _ _ _
   | exact ih1 _ _ _ _ _ _
   | exact ih2 _ _ _ _ _ _
   | exact LeO.none _
   | refine LeO.ite ?_ ?_
   | refine LeO.bind ?_ (fun _ => ?_)
  ·intro y0 y1 y2 y3 y4 y5
   unfold impl_NetOk.l1
   repeat' first
   | (with_reducible exact ih0 _ _ _ _)
   | (with_reducible exact ih1 _ _ _ _ _ _)
   | (with_reducible exact ih2 _ _ _ _ _ _)
   | (with_reducible exact LeO.refl _)
   | (with_reducible exact LeO.none _)
   | (with_reducible refine LeO.ite ?_ ?_)
   | (with_reducible refine LeO.bind ?_ (fun _ => ?_))
   | exact ih0 _ _ _ _
   | exact ih1 _ _ _ _ _ _
   | exact ih2 _ _ _ _ _ _
   | exact LeO.none _
   | refine LeO.ite ?_ ?_
   | refine LeO.bind ?_ (fun _ => ?_)
theorem impl_NetOk.mono : ∀ a0 a1 a2 k, LeO (impl_NetOk.f k a0 a1 a2) (impl_NetOk.f (k + 1) a0 a1 a2) := by
 intro a0 a1 a2 k
 obtain ⟨ih0, ih1, ih2⟩ := impl_NetOk.mono_l k
 unfold impl_NetOk.f
 repeat' first
   | (with_reducible exact ih0 _ _ _ _)
   | (with_reducible exact ih1 _ _ _ _ _ _)
   | (with_reducible exact ih2 _ _ _ _ _ _)
   | (with_reducible exact LeO.refl _)
   | (with_reducible exact LeO.none _)
   | (with_reducible refine LeO.ite ?_ ?_)
   | (with_reducible refine LeO.bind ?_ (fun _ => ?_))
   | exact ih0 _ _ _ _
   | exact ih1 _ _ _ _ _ _
   | exact ih2 _ _ _ _ _ _
   | exact LeO.none _
   | refine LeO.ite ?_ ?_
   | refine LeO.bind ?_ (fun _ => ?_)
def impl_NetOk.T6 : Bool × List (List Nat × List Nat) := (true, [([], []), ([0], [0]), ([], []), ([1, 2], [1, 2]), ([3], [3]), ([4, 3], [4]), ([5], [5]), ([6, 5], [5, 6]), ([7, 5, 5], [5, 7]), ([8], [8]), ([9, 8], [8, 9]), ([8], [8]), ([11, 8], [8, 11]), ([10, 12, 8], [8, 10, 12]), ([13, 8], [8, 13]), ([8], [8]), ([14, 15, 8, 8], [8, 14, 15]), ([16, 8], [8, 16]), ([8, 17, 5], [5, 8, 17]), ([5, 18], [5, 18])])
def impl_NetOk.B6 : List Nat := [0, 1, 0, 7, 15, 31, 63, 127, 255, 511, 1023, 511, 2559, 8191, 16383, 511, 65535, 131071, 262143, 524287]
theorem impl_NetOk.tab6 : rtab .any (opsOf Try.f18 6) = impl_NetOk.T6 := by kernel_rfl
theorem impl_NetOk.bits6 : waitsOk impl_NetOk.T6.2 impl_NetOk.B6 = true := by kernel_rfl
def impl_NetOk.T12 : Bool × List (List Nat × List Nat) := (true, [([], []), ([0], [0]), ([1], [1]), ([2], [2]), ([3, 2], [3]), ([4], [4]), ([5, 4], [4, 5]), ([4], [4]), ([7, 4], [4, 7]), ([6, 8, 4, 4], [4, 6, 8]), ([9, 4], [4, 9]), ([4, 10], [4, 10]), ([11, 9], [11]), ([12], [12]), ([13, 12], [12, 13]), ([14, 12, 12], [12, 14]), ([15, 12], [12, 15]), ([12, 16], [12, 16]), ([17, 15], [17]), ([18], [18]), ([19, 18], [18, 19]), ([20, 18, 18], [18, 20]), ([21], [21]), ([22, 21], [21, 22]), ([21], [21]), ([24, 21], [21, 24]), ([23, 25, 21], [21, 23, 25]), ([26, 21], [21, 26]), ([21], [21]), ([27, 28, 21, 21], [21, 27, 28]), ([29, 21], [21, 29]), ([21, 30, 18], [18, 21, 30]), ([18, 31], [18, 31])])
def impl_NetOk.B12 : List Nat := [0, 1, 3, 7, 15, 31, 63, 31, 159, 511, 1023, 2047, 4095, 8191, 16383, 32767, 65535, 131071, 262143, 524287, 1048575, 2097151, 4194303, 8388607, 4194303, 20971519, 67108863, 134217727, 4194303, 536870911, 1073741823, 2147483647, 4294967295]
theorem impl_NetOk.tab12 : rtab .any (opsOf Try.f18 12) = impl_NetOk.T12 := by kernel_rfl
theorem impl_NetOk.bits12 : waitsOk impl_NetOk.T12.2 impl_NetOk.B12 = true := by kernel_rfl
set_option maxHeartbeats 8000000 in
set_option maxRecDepth 100000 in
theorem impl_NetOk.calls (k : Nat) (a0_0 : Int) (A0_1 : Option Addr) (c0_1 : Nat) (l0_1 : List (S93)) (A0_2 : Option Addr) (c0_2 : Nat) (l0_2 : List (S102)) (r : Bool) (w : World) (hr0_1 : Kd.C k93 w A0_1 l0_1.length l0_1) (hc0_1 : l0_1.length ≤ c0_1) (hr0_2 : Kd.C k102 w A0_2 l0_2.length l0_2) (hc0_2 : l0_2.length ≤ c0_2) (h : impl_NetOk.f k a0_0 l0_1 l0_2 = some r) :
  Calls Try.prog 18 #[.agg #[.int .i64 a0_0, .slice A0_1 l0_1.length c0_1, .slice A0_2 l0_2.length c0_2]] w fun e w' => e = .returned (.bool r) ∧ Below w.heap.size w w' := by
 have hu31 := Try.underlying31
 have hu93 := Try.underlying93
 have hu102 := Try.underlying102
 have HR0_1 := Aside0.mk hr0_1
 have HC0_1 := Aside0.mk hc0_1
 clear hr0_1 hc0_1
 have HR0_2 := Aside0.mk hr0_2
 have HC0_2 := Aside0.mk hc0_2
 clear hr0_2 hc0_2
 have HB := Aside0.mk (Below.refl w.heap.size w)
 have H : ((impl_in.f a0_0 1 6).bind fun t171 => (if t171 = true then (if (l0_1.length : Int) > 12 then (impl_NetOk.j0 k true a0_0 l0_1 l0_2) else (impl_NetOk.j0 k (decide ((l0_2.length : Int) > 4)) a0_0 l0_1 l0_2)) else (impl_NetOk.j0 k true a0_0 l0_1 l0_2))) = some r := h
 clear h
 have HC2 := Aside0.mk H
 clear H
 go_enter Try.func18, Try.ntmps18
 go_upto_region 1 with (first | ((with_reducible refine gate_dst (N := 1) rfl ?_); (try (refine gate_guard (by rfl) ?_; dsimp only)); refine box_q 1 #[.int .i64 a0_0, .slice A0_1 l0_1.length c0_1, .slice A0_2 l0_2.length c0_2] 31 ?_; intro gb170 hg w3 hbox hb; have BK170 := Aside0.mk (hbox); have GW170 := Aside0.mk ((by rw [hg]; exact (below_size (bw_q HB)) : w.heap.size ≤ gb170)); have GE170 := Aside0.mk ((by rw [hg]; exact (below_size (bw_q HB)) : w.heap.size ≤ gb170)); replace HB := Aside0.mk (below_step (bw_q HB) hb); clear hb hbox hg))
 (try simp only [Act.put, List.setIfInBounds_toArray, List.set_cons_zero, List.set_cons_succ])
 go_cut [22] (fun v22 wc => ∃ (kq : Nat) (x22_1 : Bool), v22 = .bool x22_1 ∧ Aside0 (impl_NetOk.j0 kq x22_1 a0_0 l0_1 l0_2 = some r) ∧ Aside0 (kq ≤ k) ∧ Aside0 (wc.heap[gb170]? = some (.cells #[.int .i64 a0_0, (.slice A0_1 l0_1.length c0_1), (.slice A0_2 l0_2.length c0_2)] 31 (0, 0))) ∧ Aside0 (Below w.heap.size w wc))
 case first =>
  have H := HC2.out
  clear HC2
  replace H := Option.bind_eq_some_iff.mp H
  obtain ⟨t171, A40, H⟩ := H
  replace H : (if t171 = true then (if (l0_1.length : Int) > 12 then (impl_NetOk.j0 k true a0_0 l0_1 l0_2) else (impl_NetOk.j0 k (decide ((l0_2.length : Int) > 4)) a0_0 l0_1 l0_2)) else (impl_NetOk.j0 k true a0_0 l0_1 l0_2)) = some r := H
  have A4 := Aside0.mk A40
  clear A40
  by_cases c5 : t171 = true
  ·subst c5
   have H1 : (if (l0_1.length : Int) > 12 then (impl_NetOk.j0 k true a0_0 l0_1 l0_2) else (impl_NetOk.j0 k (decide ((l0_2.length : Int) > 4)) a0_0 l0_1 l0_2)) = some r := by rw [if_pos rfl] at H; exact H
   clear H
   have H := H1
   clear H1
   by_cases c6 : (l0_1.length : Int) > 12
   ·rw [if_pos c6] at H
    have c6b0 : decide (12 < (l0_1.length : Int)) = true := decide_eq_true c6
    have c6b1 : decide (12 < l0_1.length) = true := decide_eq_true (by omega)
    clear c6
    (first | rw [c6b0] | rw [c6b1] | (simp only [i64_w, i32_w]; first | rw [c6b0] | rw [c6b1]) | skip)
    have H' := Aside0.mk H
    clear H
    obtain ⟨hcz7_0, hcz7_1, hcz7_2⟩ := cz3_ BK170
    obtain ⟨hfz7_0, hfz7_1, hfz7_2⟩ := fz3_ BK170
    go_wp2_with (first | ((with_reducible refine gate_callee (f := 81) rfl ?_); refine goesL_ (some 9) rfl rfl Try.func81 (by kernel_rfl) rfl #[.int .i64 a0_0, .int .i64 1, .int .i64 6] rfl mp_q ?_; (with_reducible refine (impl_in.calls a0_0 1 6 true _ A4.out).mono ?_); rintro e w' ⟨rfl, ⟨nd, rfl⟩⟩; refine ⟨_, rfl, ?_⟩))
    go_meet
    case rel => exact ⟨_, (true), (by first | rfl | (simp; done) | (simp [*]; done)), H', ⟨by first | omega | exact Nat.le_refl _⟩, ⟨by refine bz_ ?_; exact BK170.out⟩, ⟨bw_q HB⟩⟩
   ·rw [if_neg c6] at H
    have c6b0 : decide (12 < (l0_1.length : Int)) = false := decide_eq_false c6
    have c6b1 : decide (12 < l0_1.length) = false := decide_eq_false (by omega)
    clear c6
    (first | rw [c6b0] | rw [c6b1] | (simp only [i64_w, i32_w]; first | rw [c6b0] | rw [c6b1]) | skip)
    have H' := Aside0.mk H
    clear H
    obtain ⟨hcz8_0, hcz8_1, hcz8_2⟩ := cz3_ BK170
    obtain ⟨hfz8_0, hfz8_1, hfz8_2⟩ := fz3_ BK170
    go_wp2_with (first | ((with_reducible refine gate_callee (f := 81) rfl ?_); refine goesL_ (some 9) rfl rfl Try.func81 (by kernel_rfl) rfl #[.int .i64 a0_0, .int .i64 1, .int .i64 6] rfl mp_q ?_; (with_reducible refine (impl_in.calls a0_0 1 6 true _ A4.out).mono ?_); rintro e w' ⟨rfl, ⟨nd, rfl⟩⟩; refine ⟨_, rfl, ?_⟩))
    go_meet
    case rel => exact ⟨_, (decide ((l0_2.length : Int) > 4)), (by first | rfl | (simp; done) | (simp [*]; done)), H', ⟨by first | omega | exact Nat.le_refl _⟩, ⟨by refine bz_ ?_; exact BK170.out⟩, ⟨bw_q HB⟩⟩
  ·replace c5 := Bool.eq_false_iff.mpr c5
   subst c5
   have H1 : (impl_NetOk.j0 k true a0_0 l0_1 l0_2) = some r := by rw [if_neg (show ¬ (false = true) by decide)] at H; exact H
   clear H
   have H := H1
   clear H1
   have H' := Aside0.mk H
   clear H
   obtain ⟨hcz9_0, hcz9_1, hcz9_2⟩ := cz3_ BK170
   obtain ⟨hfz9_0, hfz9_1, hfz9_2⟩ := fz3_ BK170
   go_wp2_with (first | ((with_reducible refine gate_callee (f := 81) rfl ?_); refine goesL_ (some 9) rfl rfl Try.func81 (by kernel_rfl) rfl #[.int .i64 a0_0, .int .i64 1, .int .i64 6] rfl mp_q ?_; (with_reducible refine (impl_in.calls a0_0 1 6 false _ A4.out).mono ?_); rintro e w' ⟨rfl, ⟨nd, rfl⟩⟩; refine ⟨_, rfl, ?_⟩))
   go_meet
   case rel => exact ⟨_, (true), (by first | rfl | (simp; done) | (simp [*]; done)), H', ⟨by first | omega | exact Nat.le_refl _⟩, ⟨by refine bz_ ?_; exact BK170.out⟩, ⟨bw_q HB⟩⟩
 case rest =>
  clear HC2
  try clear c1
  try clear p2
  try clear c5
  try clear c6
  try clear c6b0
  try clear c6b1
  try clear c8
  try clear hcz7_0
  try clear hcz7_1
  try clear hcz7_2
  try clear hcz8_0
  try clear hcz8_1
  try clear hcz8_2
  try clear hcz9_0
  try clear hcz9_1
  try clear hcz9_2
  try clear hfz7_0
  try clear hfz7_1
  try clear hfz7_2
  try clear hfz8_0
  try clear hfz8_1
  try clear hfz8_2
  try clear hfz9_0
  try clear hfz9_1
  try clear hfz9_2
  obtain ⟨kq, x22_1, rfl, HA, HJ1, BK170, HB⟩ := hcut
  cases kq with
  | zero => exact absurd HA.out (by simp [impl_NetOk.j0])
  | succ kj1 =>
   have H := HA.out
   clear HA
   simp only [impl_NetOk.j0] at H
   by_cases c10 : x22_1 = true
   ·subst c10
    have H1 : (some false) = some r := by rw [if_pos rfl] at H; exact H
    clear H
    have H := H1
    clear H1
    obtain rfl := Option.some.inj H
    go_wp2
    go_ret
    exact ⟨er_q, bw_q HB⟩
   ·replace c10 := Bool.eq_false_iff.mpr c10
    subst c10
    have H1 : (impl_NetOk.l0 kj1 l0_1 (l0_1.length : Int) 0 a0_0 l0_1 l0_2) = some r := by rw [if_neg (show ¬ (false = true) by decide)] at H; exact H
    clear H
    have H := H1
    clear H1
    have H' := Aside0.mk H
    clear H
    obtain ⟨hcz11_0, hcz11_1, hcz11_2⟩ := cz3_ BK170
    obtain ⟨hfz11_0, hfz11_1, hfz11_2⟩ := fz3_ BK170
    go_wp2
    go_loopg [26] kj1 (fun kq v26 w' => ∃ (x26_2 : Int), v26 = .int .i64 x26_2 ∧ Aside0 (impl_NetOk.l0 kq l0_1 (l0_1.length : Int) x26_2 a0_0 l0_1 l0_2 = some r) ∧ Aside0 (kq ≤ kj1) ∧ Aside0 (w'.heap[gb170]? = some (.cells #[.int .i64 a0_0, (.slice A0_1 l0_1.length c0_1), (.slice A0_2 l0_2.length c0_2)] 31 (0, 0))) ∧ Aside0 (Below w.heap.size w w'))
    case atStart => exact ⟨(0), (by first | rfl | (simp; done) | (simp [*]; done)), H', ⟨Nat.le_refl _⟩, ⟨by refine bz_ ?_; exact BK170.out⟩, ⟨bw_q HB⟩⟩
    case round =>
     clear H'
     try clear c1
     try clear p2
     try clear c5
     try clear c6
     try clear c6b0
     try clear c6b1
     try clear c8
     try clear c10
     try clear hcz11_0
     try clear hcz11_1
     try clear hcz11_2
     try clear hcz7_0
     try clear hcz7_1
     try clear hcz7_2
     try clear hcz8_0
     try clear hcz8_1
     try clear hcz8_2
     try clear hcz9_0
     try clear hcz9_1
     try clear hcz9_2
     try clear hfz11_0
     try clear hfz11_1
     try clear hfz11_2
     try clear hfz7_0
     try clear hfz7_1
     try clear hfz7_2
     try clear hfz8_0
     try clear hfz8_1
     try clear hfz8_2
     try clear hfz9_0
     try clear hfz9_1
     try clear hfz9_2
     try clear p2
     obtain ⟨x26_2, rfl, HA, HK2, BK170, HB⟩ := hrel
     cases gk with
     | zero => exact absurd HA.out (by simp [impl_NetOk.l0])
     | succ k2 =>
      have H := HA.out
      clear HA
      simp only [impl_NetOk.l0] at H
      by_cases c12 : x26_2 < (l0_1.length : Int)
      ·rw [if_pos c12] at H
       have c12b0 : decide (x26_2 < (l0_1.length : Int)) = true := decide_eq_true c12
       clear c12
       by_cases c13 : 0 ≤ x26_2
       ·rw [if_pos c13] at H
        have c13b0 : decide (0 ≤ x26_2) = true := decide_eq_true c13
        clear c13
        by_cases c14 : x26_2 < (l0_1.length : Int)
        ·rw [if_pos c14] at H
         have c14b0 : decide (x26_2 < (l0_1.length : Int)) = true := decide_eq_true c14
         clear c14
         replace H := Option.bind_eq_some_iff.mp H
         obtain ⟨t174, A150, H⟩ := H
         replace H : (if t174 = true then (if x26_2 > 0 then (if 0 ≤ (wrap64 (x26_2 - 1)) then (if (wrap64 (x26_2 - 1)) < (l0_1.length : Int) then ((impl_ahead.f ((rd_T93 l0_1 (wrap64 (x26_2 - 1))).f0) ((rd_T93 l0_1 (wrap64 (x26_2 - 1))).f1) ((rd_T93 l0_1 (wrap64 (x26_2 - 1))).f2) ((rd_T93 l0_1 (wrap64 (x26_2 - 1))).f3) ((rd_T93 l0_1 x26_2).f0) ((rd_T93 l0_1 x26_2).f1) ((rd_T93 l0_1 x26_2).f2) ((rd_T93 l0_1 x26_2).f3)).bind fun t176 => (if t176 = true then (impl_NetOk.l0 k2 l0_1 (l0_1.length : Int) (wrap64 (x26_2 + 1)) a0_0 l0_1 l0_2) else (some false))) else (none)) else (none)) else (impl_NetOk.l0 k2 l0_1 (l0_1.length : Int) (wrap64 (x26_2 + 1)) a0_0 l0_1 l0_2)) else (some false)) = some r := H
         have A15 := Aside0.mk A150
         clear A150
         have HZ1 := Aside0.mk H
         clear H
         have p172 : 0 ≤ (x26_2 : Int) := of_decide_eq_true as_q
         have q172 : x26_2 < (l0_1.length : Int) := of_decide_eq_true as_q
         obtain ⟨ad172, e172, hx172_0, hx172_1, hx172_2, hx172_3⟩ := at_T93 HR0_1.out x26_2 p172 q172
         cases e172
         replace hx172_0 := (HB.out.cell (World.block_lt_of_cell? w _ hx172_0)).trans hx172_0
         replace hx172_1 := (HB.out.cell (World.block_lt_of_cell? w _ hx172_1)).trans hx172_1
         replace hx172_2 := (HB.out.cell (World.block_lt_of_cell? w _ hx172_2)).trans hx172_2
         replace hx172_3 := (HB.out.cell (World.block_lt_of_cell? w _ hx172_3)).trans hx172_3
         replace p172 := eq_true p172
         replace q172 := eq_true q172
         try go_wp2_with (first | ((with_reducible refine gate_dst (N := 4) rfl ?_); (try (refine gate_guard (by rfl) ?_; dsimp only)); refine box_q 4 #[.int .i64 0, .int .i64 0, .int .i64 0, .int .i64 0] 93 ?_; intro gb173 hg w23 hbox hb; have BK173 := Aside0.mk (hbox); have GW173 := Aside0.mk ((by rw [hg]; exact (below_size (bw_q HB)) : w.heap.size ≤ gb173)); have GE173 := Aside0.mk ((by rw [hg]; exact (below_size (bw_q HB)) : w.heap.size ≤ gb173)); replace HB := Aside0.mk (below_step (bw_q HB) hb); have NB170_173 := Aside0.mk ((by rw [hg]; exact Nat.ne_of_lt (blk_lt (g := gb170) (o := .cells #[.int .i64 a0_0, .slice (some ad172) l0_1.length c0_1, .slice A0_2 l0_2.length c0_2] 31 (0, 0)) (bk_q BK170)) : gb170 ≠ gb173)); have NB173_170 := Aside0.mk ((by rw [hg]; exact Nat.ne_of_gt (blk_lt (g := gb170) (o := .cells #[.int .i64 a0_0, .slice (some ad172) l0_1.length c0_1, .slice A0_2 l0_2.length c0_2] 31 (0, 0)) (bk_q BK170)) : gb173 ≠ gb170)); replace BK170 := Aside0.mk (blk_below (g := gb170) (bk_q BK170) hb); clear hb hbox hg; have hnb24 := NB173_170.out; have hnc24 := NB170_173.out; have hcz25_0 : w23.cell? ⟨gb173, 0, none⟩ = some (.int .i64 0) := (blk_cell BK173.out 0).trans rfl; have hcz25_1 : w23.cell? ⟨gb173, 1, none⟩ = some (.int .i64 0) := (blk_cell BK173.out 1).trans rfl; have hcz25_2 : w23.cell? ⟨gb173, 2, none⟩ = some (.int .i64 0) := (blk_cell BK173.out 2).trans rfl; have hcz25_3 : w23.cell? ⟨gb173, 3, none⟩ = some (.int .i64 0) := (blk_cell BK173.out 3).trans rfl; have hfz25_0 := blk_frozen BK173.out 0; have hfz25_1 := blk_frozen BK173.out 1; have hfz25_2 := blk_frozen BK173.out 2; have hfz25_3 := blk_frozen BK173.out 3))
         have n0_ : Aside0 (((((w23.setCell ⟨gb173, 0, none⟩ (.int .i64 ((rd_T93 l0_1 x26_2).f0))).setCell ⟨gb173, 1, none⟩ (.int .i64 ((rd_T93 l0_1 x26_2).f1))).setCell ⟨gb173, 2, none⟩ (.int .i64 ((rd_T93 l0_1 x26_2).f2))).setCell ⟨gb173, 3, none⟩ (.int .i64 ((rd_T93 l0_1 x26_2).f3))).heap[gb170]? = some (.cells #[.int .i64 a0_0, .slice (some ad172) l0_1.length c0_1, .slice A0_2 l0_2.length c0_2] 31 (0, 0))) := ⟨by refine bz_ ?_; refine blk_far ?_ NB170_173.out _; refine bz_ ?_; refine blk_far ?_ NB170_173.out _; refine bz_ ?_; refine blk_far ?_ NB170_173.out _; refine bz_ ?_; refine blk_far ?_ NB170_173.out _; refine bz_ ?_; exact BK170.out⟩
         have n1_ : Aside0 (((((w23.setCell ⟨gb173, 0, none⟩ (.int .i64 ((rd_T93 l0_1 x26_2).f0))).setCell ⟨gb173, 1, none⟩ (.int .i64 ((rd_T93 l0_1 x26_2).f1))).setCell ⟨gb173, 2, none⟩ (.int .i64 ((rd_T93 l0_1 x26_2).f2))).setCell ⟨gb173, 3, none⟩ (.int .i64 ((rd_T93 l0_1 x26_2).f3))).heap[gb173]? = some (.cells #[.int .i64 ((rd_T93 l0_1 x26_2).f0), .int .i64 ((rd_T93 l0_1 x26_2).f1), .int .i64 ((rd_T93 l0_1 x26_2).f2), .int .i64 ((rd_T93 l0_1 x26_2).f3)] 93 (0, 0))) := ⟨by refine bz_ ?_; refine blk_put (cs := #[.int .i64 ((rd_T93 l0_1 x26_2).f0), .int .i64 ((rd_T93 l0_1 x26_2).f1), .int .i64 ((rd_T93 l0_1 x26_2).f2), .int .i64 0]) ?_ 3 _ rfl; refine bz_ ?_; refine blk_put (cs := #[.int .i64 ((rd_T93 l0_1 x26_2).f0), .int .i64 ((rd_T93 l0_1 x26_2).f1), .int .i64 0, .int .i64 0]) ?_ 2 _ rfl; refine bz_ ?_; refine blk_put (cs := #[.int .i64 ((rd_T93 l0_1 x26_2).f0), .int .i64 0, .int .i64 0, .int .i64 0]) ?_ 1 _ rfl; refine bz_ ?_; refine blk_put (cs := #[.int .i64 0, .int .i64 0, .int .i64 0, .int .i64 0]) ?_ 0 _ rfl; refine bz_ ?_; exact BK173.out⟩
         have n2_ : Aside0 (Below w.heap.size w ((((w23.setCell ⟨gb173, 0, none⟩ (.int .i64 ((rd_T93 l0_1 x26_2).f0))).setCell ⟨gb173, 1, none⟩ (.int .i64 ((rd_T93 l0_1 x26_2).f1))).setCell ⟨gb173, 2, none⟩ (.int .i64 ((rd_T93 l0_1 x26_2).f2))).setCell ⟨gb173, 3, none⟩ (.int .i64 ((rd_T93 l0_1 x26_2).f3)))) := ⟨bw_q HB⟩
         (try clear BK170)
         (try clear BK173)
         (try clear HB)
         generalize ((((w23.setCell ⟨gb173, 0, none⟩ (.int .i64 ((rd_T93 l0_1 x26_2).f0))).setCell ⟨gb173, 1, none⟩ (.int .i64 ((rd_T93 l0_1 x26_2).f1))).setCell ⟨gb173, 2, none⟩ (.int .i64 ((rd_T93 l0_1 x26_2).f2))).setCell ⟨gb173, 3, none⟩ (.int .i64 ((rd_T93 l0_1 x26_2).f3))) = w26 at n0_ n1_ n2_ ⊢
         have BK170 := n0_
         have BK173 := n1_
         have HB := n2_
         clear n0_ n1_ n2_
         replace BK170 := Aside0.mk (blk_drew BK170.out)
         replace BK173 := Aside0.mk (blk_drew BK173.out)
         replace HB := Aside0.mk (below_drew1 HB.out)
         refine start_ (n := 20) (S := fun w' => w'.cell? ⟨gb170, 0, none⟩ = some (.int .i64 a0_0) ∧ w'.cell? ⟨gb170, 1, none⟩ = some (.slice (some ad172) l0_1.length c0_1) ∧ w'.cell? ⟨gb170, 2, none⟩ = some (.slice A0_2 l0_2.length c0_2) ∧ w'.cell? ⟨gb173, 0, none⟩ = some (.int .i64 ((rd_T93 l0_1 x26_2).f0)) ∧ w'.cell? ⟨gb173, 1, none⟩ = some (.int .i64 ((rd_T93 l0_1 x26_2).f1)) ∧ w'.cell? ⟨gb173, 2, none⟩ = some (.int .i64 ((rd_T93 l0_1 x26_2).f2)) ∧ w'.cell? ⟨gb173, 3, none⟩ = some (.int .i64 ((rd_T93 l0_1 x26_2).f3))) (ds := []) (bL 20 0) (by kernel_rfl) rfl rfl ⟨(blk_cell BK170.out 0).trans rfl, (blk_cell BK170.out 1).trans rfl, (blk_cell BK170.out 2).trans rfl, (blk_cell BK173.out 0).trans rfl, (blk_cell BK173.out 1).trans rfl, (blk_cell BK173.out 2).trans rfl, (blk_cell BK173.out 3).trans rfl⟩ (fun hHeld => ?_); refine with_tabW impl_NetOk.tab6 impl_NetOk.bits6 (fun HT_ HW_ => ?_)
         generalize w26.drew = w27 at BK170 BK173 HB hHeld ⊢
         refine pq_ 0 31 (bL 20 1) HT_.out rfl rfl ?_
         refine take_ (i := 1) (N := some 32) (v := ?_) (a' := ?_) (bL 20 3) rfl rfl (take_ofW HT_.out HW_.out (by kernel_rfl)) (fun _ _ _ h => h) (Or.inl ⟨by rfl, ?_⟩) hHeld ?_ ?_; rotate_left; (rintro w' ⟨s0, s1, s2, s3, s4, s5, s6⟩; go_simp; with_reducible rfl); rotate_left; (exact put_q)
         refine take_ (i := 2) (N := some 33) (v := ?_) (a' := ?_) (bL 20 7) rfl rfl (take_ofW HT_.out HW_.out (by kernel_rfl)) (fun _ _ _ h => h) (Or.inl ⟨by rfl, ?_⟩) hHeld ?_ ?_; rotate_left; (rintro w' ⟨s0, s1, s2, s3, s4, s5, s6⟩; go_simp; with_reducible rfl); rotate_left; (exact put_q)
         refine one_ (i := 3) (N := some 34) (bL 20 15) rfl rfl (one_of HT_.out (by kernel_rfl)) (by decide) (fun K hK => ?_)
         refine goes_ Try.func66 (by kernel_rfl) rfl #[.int .i64 a0_0, .agg #[.int .i64 ((rd_T93 l0_1 x26_2).f0), .int .i64 ((rd_T93 l0_1 x26_2).f1), .int .i64 ((rd_T93 l0_1 x26_2).f2), .int .i64 ((rd_T93 l0_1 x26_2).f3)]] (by rfl) rfl rfl mp_q ?_
         with_reducible refine (impl_LinkOk.calls a0_0 ((rd_T93 l0_1 x26_2).f0) ((rd_T93 l0_1 x26_2).f1) ((rd_T93 l0_1 x26_2).f2) ((rd_T93 l0_1 x26_2).f3) t174 _ A15.out).mono ?_
         rintro e w28 ⟨rfl, hb⟩
         refine ⟨_, rfl, ?_⟩
         replace BK170 := Aside0.mk (blk_below (g := gb170) (bk_q BK170) hb)
         replace BK173 := Aside0.mk (blk_below (g := gb173) (bk_q BK173) hb)
         replace HB := Aside0.mk (below_step (bw_q HB) hb)
         (try clear hb)
         (try clear hb2)
         (try clear hk)
         (try clear hi)
         refine hK.out _ _ ⟨(blk_cell BK170.out 0).trans rfl, (blk_cell BK170.out 1).trans rfl, (blk_cell BK170.out 2).trans rfl, (blk_cell BK173.out 0).trans rfl, (blk_cell BK173.out 1).trans rfl, (blk_cell BK173.out 2).trans rfl, (blk_cell BK173.out 3).trans rfl⟩ (fun hHeld => ?_)
         clear hK K
         refine norm_ (a' := ?_) ?_ ?_; rotate_left; (show Act.put _ (some 34) _ = _; simp only [Act.put, List.setIfInBounds_toArray, List.set_cons_zero, List.set_cons_succ, i64_w, i32_w]; rfl)
         refine pq_ 4 35 (bL 20 31) HT_.out rfl rfl ?_
         refine pq_ 5 36 (bL 20 63) HT_.out rfl rfl ?_
         have H := HZ1.out
         clear HZ1
         by_cases c16 : t174 = true
         ·subst c16
          have H1 : (if x26_2 > 0 then (if 0 ≤ (wrap64 (x26_2 - 1)) then (if (wrap64 (x26_2 - 1)) < (l0_1.length : Int) then ((impl_ahead.f ((rd_T93 l0_1 (wrap64 (x26_2 - 1))).f0) ((rd_T93 l0_1 (wrap64 (x26_2 - 1))).f1) ((rd_T93 l0_1 (wrap64 (x26_2 - 1))).f2) ((rd_T93 l0_1 (wrap64 (x26_2 - 1))).f3) ((rd_T93 l0_1 x26_2).f0) ((rd_T93 l0_1 x26_2).f1) ((rd_T93 l0_1 x26_2).f2) ((rd_T93 l0_1 x26_2).f3)).bind fun t176 => (if t176 = true then (impl_NetOk.l0 k2 l0_1 (l0_1.length : Int) (wrap64 (x26_2 + 1)) a0_0 l0_1 l0_2) else (some false))) else (none)) else (none)) else (impl_NetOk.l0 k2 l0_1 (l0_1.length : Int) (wrap64 (x26_2 + 1)) a0_0 l0_1 l0_2)) = some r := by rw [if_pos rfl] at H; exact H
          clear H
          have H := H1
          clear H1
          have HZ2 := Aside0.mk H
          clear H
          refine pq_ 6 37 (bL 20 127) HT_.out rfl rfl ?_
          refine pq_ 7 38 (bL 20 255) HT_.out rfl rfl ?_
          refine pq_ 8 39 (bL 20 511) HT_.out rfl rfl ?_
          have H := HZ2.out
          clear HZ2
          by_cases c17 : x26_2 > 0
          ·rw [if_pos c17] at H
           have c17b0 : decide (0 < x26_2) = true := decide_eq_true c17
           (first | rw [c17b0] | (simp only [i64_w, i32_w]; first | rw [c17b0]) | skip)
           clear c17
           obtain ⟨ji18, hji18⟩ : ∃ j_ : Int, (wrap64 (x26_2 - 1)) = j_ := ⟨_, rfl⟩
           replace H : (if 0 ≤ (ji18) then (if (ji18) < (l0_1.length : Int) then ((impl_ahead.f ((rd_T93 l0_1 (ji18)).f0) ((rd_T93 l0_1 (ji18)).f1) ((rd_T93 l0_1 (ji18)).f2) ((rd_T93 l0_1 (ji18)).f3) ((rd_T93 l0_1 x26_2).f0) ((rd_T93 l0_1 x26_2).f1) ((rd_T93 l0_1 x26_2).f2) ((rd_T93 l0_1 x26_2).f3)).bind fun t176 => (if t176 = true then (impl_NetOk.l0 k2 l0_1 (l0_1.length : Int) (wrap64 (x26_2 + 1)) a0_0 l0_1 l0_2) else (some false))) else (none)) else (none)) = some r := by first | (rw [hji18] at H; exact H) | (simp only [hji18] at H ⊢; exact H)
           (try rw [hji18] at A15)
           have hji18w : (IntKind.i64.wrap (x26_2 - 1)) = ji18 := (i64_w _).trans hji18
           by_cases c19 : 0 ≤ (ji18)
           ·rw [if_pos c19] at H
            have c19b0 : decide (0 ≤ (ji18)) = true := decide_eq_true c19
            clear c19
            by_cases c20 : (ji18) < (l0_1.length : Int)
            ·rw [if_pos c20] at H
             have c20b0 : decide ((ji18) < (l0_1.length : Int)) = true := decide_eq_true c20
             clear c20
             replace H := Option.bind_eq_some_iff.mp H
             obtain ⟨t176, A210, H⟩ := H
             replace H : (if t176 = true then (impl_NetOk.l0 k2 l0_1 (l0_1.length : Int) (wrap64 (x26_2 + 1)) a0_0 l0_1 l0_2) else (some false)) = some r := H
             have A21 := Aside0.mk A210
             clear A210
             have HZ3 := Aside0.mk H
             clear H
             have p175 : 0 ≤ ((ji18) : Int) := of_decide_eq_true as_q
             have q175 : (ji18) < (l0_1.length : Int) := of_decide_eq_true as_q
             obtain ⟨ad175, e175, hx175_0, hx175_1, hx175_2, hx175_3⟩ := at_T93 HR0_1.out (ji18) p175 q175
             have hw175_3 := hx175_3
             have hw175_2 := hx175_2
             have hw175_1 := hx175_1
             have hw175_0 := hx175_0
             obtain rfl : ad172 = ad175 := (by injection e175)
             replace hx175_0 := (HB.out.cell (World.block_lt_of_cell? w _ hx175_0)).trans hx175_0
             replace hx175_1 := (HB.out.cell (World.block_lt_of_cell? w _ hx175_1)).trans hx175_1
             replace hx175_2 := (HB.out.cell (World.block_lt_of_cell? w _ hx175_2)).trans hx175_2
             replace hx175_3 := (HB.out.cell (World.block_lt_of_cell? w _ hx175_3)).trans hx175_3
             replace p175 := eq_true p175
             replace q175 := eq_true q175
             refine last_weaken (fun w' => w'.cell? ⟨gb170, 0, none⟩ = some (.int .i64 a0_0) ∧ w'.cell? ⟨gb170, 1, none⟩ = some (.slice (some ad172) l0_1.length c0_1) ∧ w'.cell? ⟨gb170, 2, none⟩ = some (.slice A0_2 l0_2.length c0_2) ∧ w'.cell? ⟨gb173, 0, none⟩ = some (.int .i64 ((rd_T93 l0_1 x26_2).f0)) ∧ w'.cell? ⟨gb173, 1, none⟩ = some (.int .i64 ((rd_T93 l0_1 x26_2).f1)) ∧ w'.cell? ⟨gb173, 2, none⟩ = some (.int .i64 ((rd_T93 l0_1 x26_2).f2)) ∧ w'.cell? ⟨gb173, 3, none⟩ = some (.int .i64 ((rd_T93 l0_1 x26_2).f3)) ∧ w'.cell? (ad172.add (((ji18)).toNat * 4)) = some (.int .i64 ((rd_T93 l0_1 (ji18)).f0)) ∧ w'.cell? ⟨(ad172.add (((ji18)).toNat * 4)).block, (ad172.add (((ji18)).toNat * 4)).off + 1, none⟩ = some (.int .i64 ((rd_T93 l0_1 (ji18)).f1)) ∧ w'.cell? ⟨(ad172.add (((ji18)).toNat * 4)).block, (ad172.add (((ji18)).toNat * 4)).off + 2, none⟩ = some (.int .i64 ((rd_T93 l0_1 (ji18)).f2)) ∧ w'.cell? ⟨(ad172.add (((ji18)).toNat * 4)).block, (ad172.add (((ji18)).toNat * 4)).off + 3, none⟩ = some (.int .i64 ((rd_T93 l0_1 (ji18)).f3))) (fun w' h_ => ⟨h_.1, h_.2.1, h_.2.2.1, h_.2.2.2.1, h_.2.2.2.2.1, h_.2.2.2.2.2.1, h_.2.2.2.2.2.2.1⟩) ⟨hHeld.1, hHeld.2.1, hHeld.2.2.1, hHeld.2.2.2.1, hHeld.2.2.2.2.1, hHeld.2.2.2.2.2.1, hHeld.2.2.2.2.2.2, (by first | assumption | exact ((HB.out.cell (World.block_lt_of_cell? w _ hw175_0)).trans hw175_0)), (by first | assumption | exact ((HB.out.cell (World.block_lt_of_cell? w _ hw175_1)).trans hw175_1)), (by first | assumption | exact ((HB.out.cell (World.block_lt_of_cell? w _ hw175_2)).trans hw175_2)), (by first | assumption | exact ((HB.out.cell (World.block_lt_of_cell? w _ hw175_3)).trans hw175_3))⟩ (fun hHeld => ?_)
             refine pq_ 9 40 (bL 20 1023) HT_.out rfl rfl ?_
             refine pq_ 11 42 (bL 20 3071) HT_.out rfl rfl ?_
             refine pq_ 12 43 (bL 20 7167) HT_.out rfl rfl ?_
             refine take_ (i := 10) (N := some 41) (v := ?_) (a' := ?_) (bL 20 8191) rfl rfl (take_ofW HT_.out HW_.out (by kernel_rfl)) (fun _ _ _ h => h) (Or.inl ⟨by rfl, ?_⟩) hHeld ?_ ?_; rotate_left; (rintro w' ⟨s0, s1, s2, s3, s4, s5, s6, s7, s8, s9, s10⟩; go_simp; with_reducible rfl); rotate_left; (exact put_q)
             refine pq_ 13 44 (bL 20 16383) HT_.out rfl rfl ?_
             refine take_ (i := 14) (N := some 45) (v := ?_) (a' := ?_) (bL 20 32767) rfl rfl (take_ofW HT_.out HW_.out (by kernel_rfl)) (fun _ _ _ h => h) (Or.inl ⟨by rfl, ?_⟩) hHeld ?_ ?_; rotate_left; (rintro w' ⟨s0, s1, s2, s3, s4, s5, s6, s7, s8, s9, s10⟩; go_simp; with_reducible rfl); rotate_left; (exact put_q)
             refine take_ (i := 15) (N := some 46) (v := ?_) (a' := ?_) (bL 20 65535) rfl rfl (take_ofW HT_.out HW_.out (by kernel_rfl)) (fun _ _ _ h => h) (Or.inl ⟨by rfl, ?_⟩) hHeld ?_ ?_; rotate_left; (rintro w' ⟨s0, s1, s2, s3, s4, s5, s6, s7, s8, s9, s10⟩; go_simp; with_reducible rfl); rotate_left; (exact put_q)
             refine one_ (i := 16) (N := some 47) (bL 20 131071) rfl rfl (one_of HT_.out (by kernel_rfl)) (by decide) (fun K hK => ?_)
             refine goes_ Try.func82 (by kernel_rfl) rfl #[.agg #[.int .i64 ((rd_T93 l0_1 (ji18)).f0), .int .i64 ((rd_T93 l0_1 (ji18)).f1), .int .i64 ((rd_T93 l0_1 (ji18)).f2), .int .i64 ((rd_T93 l0_1 (ji18)).f3)], .agg #[.int .i64 ((rd_T93 l0_1 x26_2).f0), .int .i64 ((rd_T93 l0_1 x26_2).f1), .int .i64 ((rd_T93 l0_1 x26_2).f2), .int .i64 ((rd_T93 l0_1 x26_2).f3)]] (by rfl) rfl rfl (by (try simp only [List.map_toArray, List.map_cons, List.map_nil]); first | done | (simp only [hji18]; rfl) | rfl | (simp only [List.length_drop, List.length_take]; rfl)) ?_
             with_reducible refine (impl_ahead.calls ((rd_T93 l0_1 (ji18)).f0) ((rd_T93 l0_1 (ji18)).f1) ((rd_T93 l0_1 (ji18)).f2) ((rd_T93 l0_1 (ji18)).f3) ((rd_T93 l0_1 x26_2).f0) ((rd_T93 l0_1 x26_2).f1) ((rd_T93 l0_1 x26_2).f2) ((rd_T93 l0_1 x26_2).f3) t176 _ A21.out).mono ?_
             rintro e w29 ⟨rfl, hb⟩
             refine ⟨_, rfl, ?_⟩
             replace BK170 := Aside0.mk (blk_below (g := gb170) (bk_q BK170) hb)
             replace BK173 := Aside0.mk (blk_below (g := gb173) (bk_q BK173) hb)
             replace HB := Aside0.mk (below_step (bw_q HB) hb)
             (try clear hb)
             (try clear hb2)
             (try clear hk)
             (try clear hi)
             refine hK.out _ _ ⟨(blk_cell BK170.out 0).trans rfl, (blk_cell BK170.out 1).trans rfl, (blk_cell BK170.out 2).trans rfl, (blk_cell BK173.out 0).trans rfl, (blk_cell BK173.out 1).trans rfl, (blk_cell BK173.out 2).trans rfl, (blk_cell BK173.out 3).trans rfl, ((HB.out.cell (World.block_lt_of_cell? w _ hw175_0)).trans hw175_0), ((HB.out.cell (World.block_lt_of_cell? w _ hw175_1)).trans hw175_1), ((HB.out.cell (World.block_lt_of_cell? w _ hw175_2)).trans hw175_2), ((HB.out.cell (World.block_lt_of_cell? w _ hw175_3)).trans hw175_3)⟩ (fun hHeld => ?_)
             clear hK K
             refine norm_ (a' := ?_) ?_ ?_; rotate_left; (show Act.put _ (some 47) _ = _; simp only [Act.put, List.setIfInBounds_toArray, List.set_cons_zero, List.set_cons_succ, i64_w, i32_w]; rfl)
             refine pq_ 17 48 (bL 20 262143) HT_.out rfl rfl ?_
             refine pq_ 18 49 (bL 20 524287) HT_.out rfl rfl ?_
             refine pq_ 19 50 (bL 20 1048575) HT_.out rfl rfl ?_
             have H := HZ3.out
             clear HZ3
             by_cases c22 : t176 = true
             ·subst c22
              have H1 : (impl_NetOk.l0 k2 l0_1 (l0_1.length : Int) (wrap64 (x26_2 + 1)) a0_0 l0_1 l0_2) = some r := by rw [if_pos rfl] at H; exact H
              clear H
              have H := H1
              clear H1
              have H' := Aside0.mk H
              clear H
              refine done_ (done_of HT_.out (by kernel_rfl)) ?_
              try go_wp2
              go_roundg k2
              case measure => have := HJ1.out; have := HK2.out; omega
              case rel => exact ⟨(wrap64 (x26_2 + 1)), (by first | rfl | (simp; done) | (simp [*]; done)), H', ⟨by have := HJ1.out; have := HK2.out; omega⟩, ⟨by refine bz_ ?_; exact BK170.out⟩, ⟨bw_q HB⟩⟩
             ·replace c22 := Bool.eq_false_iff.mpr c22
              subst c22
              have H1 : (some false) = some r := by rw [if_neg (show ¬ (false = true) by decide)] at H; exact H
              clear H
              have H := H1
              clear H1
              obtain rfl := Option.some.inj H
              refine done_ (done_of HT_.out (by kernel_rfl)) ?_
              try go_wp2
              go_ret
              exact ⟨by first | rfl | (simp [errW_none, errW_some] <;> rfl) | (simp only [← hji18]; first | rfl | (simp [errW_none, errW_some] <;> rfl)) | (simp [*, errW_none, errW_some] <;> rfl), bw_q HB⟩
            ·rw [if_neg c20] at H
             exact absurd H (by simp)
           ·rw [if_neg c19] at H
            exact absurd H (by simp)
          ·rw [if_neg c17] at H
           have c17b0 : decide (0 < x26_2) = false := decide_eq_false c17
           (first | rw [c17b0] | (simp only [i64_w, i32_w]; first | rw [c17b0]) | skip)
           clear c17
           have H' := Aside0.mk H
           clear H
           refine pu_ 9 40 (bL 20 1023) HT_.out rfl rfl ?_
           refine pu_ 10 41 (bL 20 2047) HT_.out rfl rfl ?_
           refine pu_ 11 42 (bL 20 4095) HT_.out rfl rfl ?_
           refine pu_ 12 43 (bL 20 8191) HT_.out rfl rfl ?_
           refine pu_ 13 44 (bL 20 16383) HT_.out rfl rfl ?_
           refine pu_ 14 45 (bL 20 32767) HT_.out rfl rfl ?_
           refine pu_ 15 46 (bL 20 65535) HT_.out rfl rfl ?_
           refine pu_ 16 47 (bL 20 131071) HT_.out rfl rfl ?_
           refine pu_ 17 48 (bL 20 262143) HT_.out rfl rfl ?_
           refine pq_ 18 49 (bL 20 524287) HT_.out rfl rfl ?_
           refine pq_ 19 50 (bL 20 1048575) HT_.out rfl rfl ?_
           refine done_ (done_of HT_.out (by kernel_rfl)) ?_
           try go_wp2
           go_roundg k2
           case measure => have := HJ1.out; have := HK2.out; omega
           case rel => exact ⟨(wrap64 (x26_2 + 1)), (by first | rfl | (simp; done) | (simp [*]; done)), H', ⟨by have := HJ1.out; have := HK2.out; omega⟩, ⟨by refine bz_ ?_; exact BK170.out⟩, ⟨bw_q HB⟩⟩
         ·replace c16 := Bool.eq_false_iff.mpr c16
          subst c16
          have H1 : (some false) = some r := by rw [if_neg (show ¬ (false = true) by decide)] at H; exact H
          clear H
          have H := H1
          clear H1
          obtain rfl := Option.some.inj H
          refine pu_ 6 37 (bL 20 127) HT_.out rfl rfl ?_
          refine pu_ 7 38 (bL 20 255) HT_.out rfl rfl ?_
          refine pu_ 8 39 (bL 20 511) HT_.out rfl rfl ?_
          refine pu_ 9 40 (bL 20 1023) HT_.out rfl rfl ?_
          refine pu_ 10 41 (bL 20 2047) HT_.out rfl rfl ?_
          refine pu_ 11 42 (bL 20 4095) HT_.out rfl rfl ?_
          refine pu_ 12 43 (bL 20 8191) HT_.out rfl rfl ?_
          refine pu_ 13 44 (bL 20 16383) HT_.out rfl rfl ?_
          refine pu_ 14 45 (bL 20 32767) HT_.out rfl rfl ?_
          refine pu_ 15 46 (bL 20 65535) HT_.out rfl rfl ?_
          refine pu_ 16 47 (bL 20 131071) HT_.out rfl rfl ?_
          refine pu_ 17 48 (bL 20 262143) HT_.out rfl rfl ?_
          refine pu_ 18 49 (bL 20 524287) HT_.out rfl rfl ?_
          refine pq_ 19 50 (bL 20 1048575) HT_.out rfl rfl ?_
          refine done_ (done_of HT_.out (by kernel_rfl)) ?_
          try go_wp2
          go_ret
          exact ⟨er_q, bw_q HB⟩
        ·rw [if_neg c14] at H
         exact absurd H (by simp)
       ·rw [if_neg c13] at H
        exact absurd H (by simp)
      ·rw [if_neg c12] at H
       have c12b0 : decide (x26_2 < (l0_1.length : Int)) = false := decide_eq_false c12
       clear c12
       have H' := Aside0.mk H
       clear H
       obtain ⟨hcz49_0, hcz49_1, hcz49_2⟩ := cz3_ BK170
       obtain ⟨hfz49_0, hfz49_1, hfz49_2⟩ := fz3_ BK170
       go_wp2
       go_loopg [55] k2 (fun kq v55 w' => ∃ (x55_3 : Int), v55 = .int .i64 x55_3 ∧ Aside0 (impl_NetOk.l1 kq l0_2 (l0_2.length : Int) x55_3 a0_0 l0_1 l0_2 = some r) ∧ Aside0 (kq ≤ k2) ∧ Aside0 (w'.heap[gb170]? = some (.cells #[.int .i64 a0_0, (.slice A0_1 l0_1.length c0_1), (.slice A0_2 l0_2.length c0_2)] 31 (0, 0))) ∧ Aside0 (Below w.heap.size w w'))
       case atStart => exact ⟨(0), (by first | rfl | (simp; done) | (simp [*]; done)), H', ⟨Nat.le_refl _⟩, ⟨by refine bz_ ?_; exact BK170.out⟩, ⟨bw_q HB⟩⟩
       case round =>
        clear H'
        try clear c1
        try clear p1
        try clear q1
        try clear hx1
        try clear c2
        try clear p2
        try clear c3
        try clear c4
        try clear c6
        try clear p6
        try clear c8
        try clear c12
        try clear c12b0
        try clear c13
        try clear c14
        try clear c16
        try clear c17
        try clear c17b0
        try clear p17
        try clear q17
        try clear hx17
        try clear c19
        try clear c20
        try clear c38
        try clear c44
        try clear hcz39_0
        try clear hcz39_1
        try clear hcz39_2
        try clear hcz39_3
        try clear hcz45_0
        try clear hcz45_1
        try clear hcz45_2
        try clear hcz45_3
        try clear hcz49_0
        try clear hcz49_1
        try clear hcz49_2
        try clear hfz39_0
        try clear hfz39_1
        try clear hfz39_2
        try clear hfz39_3
        try clear hfz45_0
        try clear hfz45_1
        try clear hfz45_2
        try clear hfz45_3
        try clear hfz49_0
        try clear hfz49_1
        try clear hfz49_2
        try clear hx172_0
        try clear hx172_1
        try clear hx172_2
        try clear hx172_3
        try clear hx175_0
        try clear hx175_1
        try clear hx175_2
        try clear hx175_3
        try clear p172
        try clear p175
        try clear q172
        try clear q175
        obtain ⟨x55_3, rfl, HA, HK3, BK170, HB⟩ := hrel
        cases gk with
        | zero => exact absurd HA.out (by simp [impl_NetOk.l1])
        | succ k3 =>
         have H := HA.out
         clear HA
         simp only [impl_NetOk.l1] at H
         by_cases c50 : x55_3 < (l0_2.length : Int)
         ·rw [if_pos c50] at H
          have c50b0 : decide (x55_3 < (l0_2.length : Int)) = true := decide_eq_true c50
          clear c50
          by_cases c51 : 0 ≤ x55_3
          ·rw [if_pos c51] at H
           have c51b0 : decide (0 ≤ x55_3) = true := decide_eq_true c51
           clear c51
           by_cases c52 : x55_3 < (l0_2.length : Int)
           ·rw [if_pos c52] at H
            have c52b0 : decide (x55_3 < (l0_2.length : Int)) = true := decide_eq_true c52
            clear c52
            replace H := Option.bind_eq_some_iff.mp H
            obtain ⟨t179, A530, H⟩ := H
            replace H : (if t179 = true then ((impl_in.f ((rd_T102 l0_2 x55_3).f0) 1 a0_0).bind fun t180 => (if t180 = true then ((impl_in.f ((rd_T102 l0_2 x55_3).f2) 1 1000).bind fun t181 => (if t181 = true then (if x55_3 > 0 then (if 0 ≤ (wrap64 (x55_3 - 1)) then (if (wrap64 (x55_3 - 1)) < (l0_2.length : Int) then ((impl_less.f ((rd_T102 l0_2 (wrap64 (x55_3 - 1))).f0) ((rd_T102 l0_2 (wrap64 (x55_3 - 1))).f1) ((rd_T102 l0_2 (wrap64 (x55_3 - 1))).f2) ((rd_T102 l0_2 (wrap64 (x55_3 - 1))).f3) ((rd_T102 l0_2 x55_3).f0) ((rd_T102 l0_2 x55_3).f1) ((rd_T102 l0_2 x55_3).f2) ((rd_T102 l0_2 x55_3).f3)).bind fun t183 => (if t183 = true then (impl_NetOk.l1 k3 l0_2 (l0_2.length : Int) (wrap64 (x55_3 + 1)) a0_0 l0_1 l0_2) else (some false))) else (none)) else (none)) else (impl_NetOk.l1 k3 l0_2 (l0_2.length : Int) (wrap64 (x55_3 + 1)) a0_0 l0_1 l0_2)) else (some false))) else (some false))) else (some false)) = some r := H
            have A53 := Aside0.mk A530
            clear A530
            have HZ4 := Aside0.mk H
            clear H
            have p177 : 0 ≤ (x55_3 : Int) := of_decide_eq_true as_q
            have q177 : x55_3 < (l0_2.length : Int) := of_decide_eq_true as_q
            obtain ⟨ad177, e177, hx177_0, hx177_1, hx177_2, hx177_3⟩ := at_T102 HR0_2.out x55_3 p177 q177
            cases e177
            replace hx177_0 := (HB.out.cell (World.block_lt_of_cell? w _ hx177_0)).trans hx177_0
            replace hx177_1 := (HB.out.cell (World.block_lt_of_cell? w _ hx177_1)).trans hx177_1
            replace hx177_2 := (HB.out.cell (World.block_lt_of_cell? w _ hx177_2)).trans hx177_2
            replace hx177_3 := (HB.out.cell (World.block_lt_of_cell? w _ hx177_3)).trans hx177_3
            replace p177 := eq_true p177
            replace q177 := eq_true q177
            try go_wp2_with (first | ((with_reducible refine gate_dst (N := 6) rfl ?_); (try (refine gate_guard (by rfl) ?_; dsimp only)); refine box_q 6 #[.int .i64 0, .int .i64 0, .int .i64 0, .bool false] 102 ?_; intro gb178 hg w65 hbox hb; have BK178 := Aside0.mk (hbox); have GW178 := Aside0.mk ((by rw [hg]; exact (below_size (bw_q HB)) : w.heap.size ≤ gb178)); have GE178 := Aside0.mk ((by rw [hg]; exact (below_size (bw_q HB)) : w.heap.size ≤ gb178)); replace HB := Aside0.mk (below_step (bw_q HB) hb); have NB170_178 := Aside0.mk ((by rw [hg]; exact Nat.ne_of_lt (blk_lt (g := gb170) (o := .cells #[.int .i64 a0_0, .slice A0_1 l0_1.length c0_1, .slice (some ad177) l0_2.length c0_2] 31 (0, 0)) (bk_q BK170)) : gb170 ≠ gb178)); have NB178_170 := Aside0.mk ((by rw [hg]; exact Nat.ne_of_gt (blk_lt (g := gb170) (o := .cells #[.int .i64 a0_0, .slice A0_1 l0_1.length c0_1, .slice (some ad177) l0_2.length c0_2] 31 (0, 0)) (bk_q BK170)) : gb178 ≠ gb170)); replace BK170 := Aside0.mk (blk_below (g := gb170) (bk_q BK170) hb); clear hb hbox hg; have hnb66 := NB178_170.out; have hnc66 := NB170_178.out; have hcz67_0 : w65.cell? ⟨gb178, 0, none⟩ = some (.int .i64 0) := (blk_cell BK178.out 0).trans rfl; have hcz67_1 : w65.cell? ⟨gb178, 1, none⟩ = some (.int .i64 0) := (blk_cell BK178.out 1).trans rfl; have hcz67_2 : w65.cell? ⟨gb178, 2, none⟩ = some (.int .i64 0) := (blk_cell BK178.out 2).trans rfl; have hcz67_3 : w65.cell? ⟨gb178, 3, none⟩ = some (.bool false) := (blk_cell BK178.out 3).trans rfl; have hfz67_0 := blk_frozen BK178.out 0; have hfz67_1 := blk_frozen BK178.out 1; have hfz67_2 := blk_frozen BK178.out 2; have hfz67_3 := blk_frozen BK178.out 3))
            have n0_ : Aside0 (((((w65.setCell ⟨gb178, 0, none⟩ (.int .i64 ((rd_T102 l0_2 x55_3).f0))).setCell ⟨gb178, 1, none⟩ (.int .i64 ((rd_T102 l0_2 x55_3).f1))).setCell ⟨gb178, 2, none⟩ (.int .i64 ((rd_T102 l0_2 x55_3).f2))).setCell ⟨gb178, 3, none⟩ (.bool ((rd_T102 l0_2 x55_3).f3))).heap[gb170]? = some (.cells #[.int .i64 a0_0, .slice A0_1 l0_1.length c0_1, .slice (some ad177) l0_2.length c0_2] 31 (0, 0))) := ⟨by refine bz_ ?_; refine blk_far ?_ NB170_178.out _; refine bz_ ?_; refine blk_far ?_ NB170_178.out _; refine bz_ ?_; refine blk_far ?_ NB170_178.out _; refine bz_ ?_; refine blk_far ?_ NB170_178.out _; refine bz_ ?_; exact BK170.out⟩
            have n1_ : Aside0 (((((w65.setCell ⟨gb178, 0, none⟩ (.int .i64 ((rd_T102 l0_2 x55_3).f0))).setCell ⟨gb178, 1, none⟩ (.int .i64 ((rd_T102 l0_2 x55_3).f1))).setCell ⟨gb178, 2, none⟩ (.int .i64 ((rd_T102 l0_2 x55_3).f2))).setCell ⟨gb178, 3, none⟩ (.bool ((rd_T102 l0_2 x55_3).f3))).heap[gb178]? = some (.cells #[.int .i64 ((rd_T102 l0_2 x55_3).f0), .int .i64 ((rd_T102 l0_2 x55_3).f1), .int .i64 ((rd_T102 l0_2 x55_3).f2), .bool ((rd_T102 l0_2 x55_3).f3)] 102 (0, 0))) := ⟨by refine bz_ ?_; refine blk_put (cs := #[.int .i64 ((rd_T102 l0_2 x55_3).f0), .int .i64 ((rd_T102 l0_2 x55_3).f1), .int .i64 ((rd_T102 l0_2 x55_3).f2), .bool false]) ?_ 3 _ rfl; refine bz_ ?_; refine blk_put (cs := #[.int .i64 ((rd_T102 l0_2 x55_3).f0), .int .i64 ((rd_T102 l0_2 x55_3).f1), .int .i64 0, .bool false]) ?_ 2 _ rfl; refine bz_ ?_; refine blk_put (cs := #[.int .i64 ((rd_T102 l0_2 x55_3).f0), .int .i64 0, .int .i64 0, .bool false]) ?_ 1 _ rfl; refine bz_ ?_; refine blk_put (cs := #[.int .i64 0, .int .i64 0, .int .i64 0, .bool false]) ?_ 0 _ rfl; refine bz_ ?_; exact BK178.out⟩
            have n2_ : Aside0 (Below w.heap.size w ((((w65.setCell ⟨gb178, 0, none⟩ (.int .i64 ((rd_T102 l0_2 x55_3).f0))).setCell ⟨gb178, 1, none⟩ (.int .i64 ((rd_T102 l0_2 x55_3).f1))).setCell ⟨gb178, 2, none⟩ (.int .i64 ((rd_T102 l0_2 x55_3).f2))).setCell ⟨gb178, 3, none⟩ (.bool ((rd_T102 l0_2 x55_3).f3)))) := ⟨bw_q HB⟩
            (try clear BK170)
            (try clear BK178)
            (try clear HB)
            generalize ((((w65.setCell ⟨gb178, 0, none⟩ (.int .i64 ((rd_T102 l0_2 x55_3).f0))).setCell ⟨gb178, 1, none⟩ (.int .i64 ((rd_T102 l0_2 x55_3).f1))).setCell ⟨gb178, 2, none⟩ (.int .i64 ((rd_T102 l0_2 x55_3).f2))).setCell ⟨gb178, 3, none⟩ (.bool ((rd_T102 l0_2 x55_3).f3))) = w68 at n0_ n1_ n2_ ⊢
            have BK170 := n0_
            have BK178 := n1_
            have HB := n2_
            clear n0_ n1_ n2_
            replace BK170 := Aside0.mk (blk_drew BK170.out)
            replace BK178 := Aside0.mk (blk_drew BK178.out)
            replace HB := Aside0.mk (below_drew1 HB.out)
            refine start_ (n := 33) (S := fun w' => w'.cell? ⟨gb178, 0, none⟩ = some (.int .i64 ((rd_T102 l0_2 x55_3).f0)) ∧ w'.cell? ⟨gb178, 1, none⟩ = some (.int .i64 ((rd_T102 l0_2 x55_3).f1)) ∧ w'.cell? ⟨gb178, 2, none⟩ = some (.int .i64 ((rd_T102 l0_2 x55_3).f2)) ∧ w'.cell? ⟨gb178, 3, none⟩ = some (.bool ((rd_T102 l0_2 x55_3).f3))) (ds := []) (bL 33 0) (by kernel_rfl) rfl rfl ⟨(blk_cell BK178.out 0).trans rfl, (blk_cell BK178.out 1).trans rfl, (blk_cell BK178.out 2).trans rfl, (blk_cell BK178.out 3).trans rfl⟩ (fun hHeld => ?_); refine with_tabW impl_NetOk.tab12 impl_NetOk.bits12 (fun HT_ HW_ => ?_)
            generalize w68.drew = w69 at BK170 BK178 HB hHeld ⊢
            refine pq_ 0 60 (bL 33 1) HT_.out rfl rfl ?_
            refine take_ (i := 1) (N := some 61) (v := ?_) (a' := ?_) (bL 33 3) rfl rfl (take_ofW HT_.out HW_.out (by kernel_rfl)) (fun _ _ _ h => h) (Or.inl ⟨by rfl, ?_⟩) hHeld ?_ ?_; rotate_left; (rintro w' ⟨s0, s1, s2, s3⟩; go_simp; with_reducible rfl); rotate_left; (exact put_q)
            refine one_ (i := 2) (N := some 62) (bL 33 7) rfl rfl (one_of HT_.out (by kernel_rfl)) (by decide) (fun K hK => ?_)
            refine goes_ Try.func81 (by kernel_rfl) rfl #[.int .i64 ((rd_T102 l0_2 x55_3).f1), .int .i64 1, .int .i64 9] (by rfl) rfl rfl mp_q ?_
            with_reducible refine (impl_in.calls ((rd_T102 l0_2 x55_3).f1) 1 9 t179 _ A53.out).mono ?_
            rintro e w' ⟨rfl, ⟨nd, rfl⟩⟩
            refine ⟨_, rfl, ?_⟩
            refine hK.out _ _ ⟨(blk_cell BK178.out 0).trans rfl, (blk_cell BK178.out 1).trans rfl, (blk_cell BK178.out 2).trans rfl, (blk_cell BK178.out 3).trans rfl⟩ (fun hHeld => ?_)
            clear hK K
            refine norm_ (a' := ?_) ?_ ?_; rotate_left; (show Act.put _ (some 62) _ = _; simp only [Act.put, List.setIfInBounds_toArray, List.set_cons_zero, List.set_cons_succ, i64_w, i32_w]; rfl)
            refine pq_ 3 63 (bL 33 15) HT_.out rfl rfl ?_
            refine pq_ 4 64 (bL 33 31) HT_.out rfl rfl ?_
            have H := HZ4.out
            clear HZ4
            by_cases c54 : t179 = true
            ·subst c54
             have H1 : ((impl_in.f ((rd_T102 l0_2 x55_3).f0) 1 a0_0).bind fun t180 => (if t180 = true then ((impl_in.f ((rd_T102 l0_2 x55_3).f2) 1 1000).bind fun t181 => (if t181 = true then (if x55_3 > 0 then (if 0 ≤ (wrap64 (x55_3 - 1)) then (if (wrap64 (x55_3 - 1)) < (l0_2.length : Int) then ((impl_less.f ((rd_T102 l0_2 (wrap64 (x55_3 - 1))).f0) ((rd_T102 l0_2 (wrap64 (x55_3 - 1))).f1) ((rd_T102 l0_2 (wrap64 (x55_3 - 1))).f2) ((rd_T102 l0_2 (wrap64 (x55_3 - 1))).f3) ((rd_T102 l0_2 x55_3).f0) ((rd_T102 l0_2 x55_3).f1) ((rd_T102 l0_2 x55_3).f2) ((rd_T102 l0_2 x55_3).f3)).bind fun t183 => (if t183 = true then (impl_NetOk.l1 k3 l0_2 (l0_2.length : Int) (wrap64 (x55_3 + 1)) a0_0 l0_1 l0_2) else (some false))) else (none)) else (none)) else (impl_NetOk.l1 k3 l0_2 (l0_2.length : Int) (wrap64 (x55_3 + 1)) a0_0 l0_1 l0_2)) else (some false))) else (some false))) = some r := by rw [if_pos rfl] at H; exact H
             clear H
             have H := H1
             clear H1
             replace H := Option.bind_eq_some_iff.mp H
             obtain ⟨t180, A550, H⟩ := H
             replace H : (if t180 = true then ((impl_in.f ((rd_T102 l0_2 x55_3).f2) 1 1000).bind fun t181 => (if t181 = true then (if x55_3 > 0 then (if 0 ≤ (wrap64 (x55_3 - 1)) then (if (wrap64 (x55_3 - 1)) < (l0_2.length : Int) then ((impl_less.f ((rd_T102 l0_2 (wrap64 (x55_3 - 1))).f0) ((rd_T102 l0_2 (wrap64 (x55_3 - 1))).f1) ((rd_T102 l0_2 (wrap64 (x55_3 - 1))).f2) ((rd_T102 l0_2 (wrap64 (x55_3 - 1))).f3) ((rd_T102 l0_2 x55_3).f0) ((rd_T102 l0_2 x55_3).f1) ((rd_T102 l0_2 x55_3).f2) ((rd_T102 l0_2 x55_3).f3)).bind fun t183 => (if t183 = true then (impl_NetOk.l1 k3 l0_2 (l0_2.length : Int) (wrap64 (x55_3 + 1)) a0_0 l0_1 l0_2) else (some false))) else (none)) else (none)) else (impl_NetOk.l1 k3 l0_2 (l0_2.length : Int) (wrap64 (x55_3 + 1)) a0_0 l0_1 l0_2)) else (some false))) else (some false)) = some r := H
             have A55 := Aside0.mk A550
             clear A550
             have HZ5 := Aside0.mk H
             clear H
             refine last_weaken (fun w' => w'.cell? ⟨gb178, 0, none⟩ = some (.int .i64 ((rd_T102 l0_2 x55_3).f0)) ∧ w'.cell? ⟨gb178, 1, none⟩ = some (.int .i64 ((rd_T102 l0_2 x55_3).f1)) ∧ w'.cell? ⟨gb178, 2, none⟩ = some (.int .i64 ((rd_T102 l0_2 x55_3).f2)) ∧ w'.cell? ⟨gb178, 3, none⟩ = some (.bool ((rd_T102 l0_2 x55_3).f3)) ∧ w'.cell? ⟨gb170, 0, none⟩ = some (.int .i64 a0_0) ∧ w'.cell? ⟨gb170, 1, none⟩ = some (.slice A0_1 l0_1.length c0_1) ∧ w'.cell? ⟨gb170, 2, none⟩ = some (.slice (some ad177) l0_2.length c0_2)) (fun w' h_ => ⟨h_.1, h_.2.1, h_.2.2.1, h_.2.2.2.1⟩) ⟨hHeld.1, hHeld.2.1, hHeld.2.2.1, hHeld.2.2.2, (by first | assumption | exact (blk_cell BK170.out 0).trans rfl), (by first | assumption | exact (blk_cell BK170.out 1).trans rfl), (by first | assumption | exact (blk_cell BK170.out 2).trans rfl)⟩ (fun hHeld => ?_)
             refine pq_ 5 65 (bL 33 63) HT_.out rfl rfl ?_
             refine pq_ 7 67 (bL 33 191) HT_.out rfl rfl ?_
             refine take_ (i := 6) (N := some 66) (v := ?_) (a' := ?_) (bL 33 255) rfl rfl (take_ofW HT_.out HW_.out (by kernel_rfl)) (fun _ _ _ h => h) (Or.inl ⟨by rfl, ?_⟩) hHeld ?_ ?_; rotate_left; (rintro w' ⟨s0, s1, s2, s3, s4, s5, s6⟩; go_simp; with_reducible rfl); rotate_left; (exact put_q)
             refine take_ (i := 8) (N := some 68) (v := ?_) (a' := ?_) (bL 33 511) rfl rfl (take_ofW HT_.out HW_.out (by kernel_rfl)) (fun _ _ _ h => h) (Or.inl ⟨by rfl, ?_⟩) hHeld ?_ ?_; rotate_left; (rintro w' ⟨s0, s1, s2, s3, s4, s5, s6⟩; go_simp; with_reducible rfl); rotate_left; (exact put_q)
             refine one_ (i := 9) (N := some 69) (bL 33 1023) rfl rfl (one_of HT_.out (by kernel_rfl)) (by decide) (fun K hK => ?_)
             refine goes_ Try.func81 (by kernel_rfl) rfl #[.int .i64 ((rd_T102 l0_2 x55_3).f0), .int .i64 1, .int .i64 a0_0] (by rfl) rfl rfl mp_q ?_
             with_reducible refine (impl_in.calls ((rd_T102 l0_2 x55_3).f0) 1 a0_0 t180 _ A55.out).mono ?_
             rintro e w' ⟨rfl, ⟨nd, rfl⟩⟩
             refine ⟨_, rfl, ?_⟩
             refine hK.out _ _ ⟨(blk_cell BK178.out 0).trans rfl, (blk_cell BK178.out 1).trans rfl, (blk_cell BK178.out 2).trans rfl, (blk_cell BK178.out 3).trans rfl, (blk_cell BK170.out 0).trans rfl, (blk_cell BK170.out 1).trans rfl, (blk_cell BK170.out 2).trans rfl⟩ (fun hHeld => ?_)
             clear hK K
             refine norm_ (a' := ?_) ?_ ?_; rotate_left; (show Act.put _ (some 69) _ = _; simp only [Act.put, List.setIfInBounds_toArray, List.set_cons_zero, List.set_cons_succ, i64_w, i32_w]; rfl)
             refine pq_ 10 70 (bL 33 2047) HT_.out rfl rfl ?_
             refine pq_ 11 71 (bL 33 4095) HT_.out rfl rfl ?_
             refine pq_ 12 72 (bL 33 8191) HT_.out rfl rfl ?_
             have H := HZ5.out
             clear HZ5
             by_cases c56 : t180 = true
             ·subst c56
              have H1 : ((impl_in.f ((rd_T102 l0_2 x55_3).f2) 1 1000).bind fun t181 => (if t181 = true then (if x55_3 > 0 then (if 0 ≤ (wrap64 (x55_3 - 1)) then (if (wrap64 (x55_3 - 1)) < (l0_2.length : Int) then ((impl_less.f ((rd_T102 l0_2 (wrap64 (x55_3 - 1))).f0) ((rd_T102 l0_2 (wrap64 (x55_3 - 1))).f1) ((rd_T102 l0_2 (wrap64 (x55_3 - 1))).f2) ((rd_T102 l0_2 (wrap64 (x55_3 - 1))).f3) ((rd_T102 l0_2 x55_3).f0) ((rd_T102 l0_2 x55_3).f1) ((rd_T102 l0_2 x55_3).f2) ((rd_T102 l0_2 x55_3).f3)).bind fun t183 => (if t183 = true then (impl_NetOk.l1 k3 l0_2 (l0_2.length : Int) (wrap64 (x55_3 + 1)) a0_0 l0_1 l0_2) else (some false))) else (none)) else (none)) else (impl_NetOk.l1 k3 l0_2 (l0_2.length : Int) (wrap64 (x55_3 + 1)) a0_0 l0_1 l0_2)) else (some false))) = some r := by rw [if_pos rfl] at H; exact H
              clear H
              have H := H1
              clear H1
              replace H := Option.bind_eq_some_iff.mp H
              obtain ⟨t181, A570, H⟩ := H
              replace H : (if t181 = true then (if x55_3 > 0 then (if 0 ≤ (wrap64 (x55_3 - 1)) then (if (wrap64 (x55_3 - 1)) < (l0_2.length : Int) then ((impl_less.f ((rd_T102 l0_2 (wrap64 (x55_3 - 1))).f0) ((rd_T102 l0_2 (wrap64 (x55_3 - 1))).f1) ((rd_T102 l0_2 (wrap64 (x55_3 - 1))).f2) ((rd_T102 l0_2 (wrap64 (x55_3 - 1))).f3) ((rd_T102 l0_2 x55_3).f0) ((rd_T102 l0_2 x55_3).f1) ((rd_T102 l0_2 x55_3).f2) ((rd_T102 l0_2 x55_3).f3)).bind fun t183 => (if t183 = true then (impl_NetOk.l1 k3 l0_2 (l0_2.length : Int) (wrap64 (x55_3 + 1)) a0_0 l0_1 l0_2) else (some false))) else (none)) else (none)) else (impl_NetOk.l1 k3 l0_2 (l0_2.length : Int) (wrap64 (x55_3 + 1)) a0_0 l0_1 l0_2)) else (some false)) = some r := H
              have A57 := Aside0.mk A570
              clear A570
              have HZ6 := Aside0.mk H
              clear H
              refine pq_ 13 73 (bL 33 16383) HT_.out rfl rfl ?_
              refine take_ (i := 14) (N := some 74) (v := ?_) (a' := ?_) (bL 33 32767) rfl rfl (take_ofW HT_.out HW_.out (by kernel_rfl)) (fun _ _ _ h => h) (Or.inl ⟨by rfl, ?_⟩) hHeld ?_ ?_; rotate_left; (rintro w' ⟨s0, s1, s2, s3, s4, s5, s6⟩; go_simp; with_reducible rfl); rotate_left; (exact put_q)
              refine one_ (i := 15) (N := some 75) (bL 33 65535) rfl rfl (one_of HT_.out (by kernel_rfl)) (by decide) (fun K hK => ?_)
              refine goes_ Try.func81 (by kernel_rfl) rfl #[.int .i64 ((rd_T102 l0_2 x55_3).f2), .int .i64 1, .int .i64 1000] (by rfl) rfl rfl mp_q ?_
              with_reducible refine (impl_in.calls ((rd_T102 l0_2 x55_3).f2) 1 1000 t181 _ A57.out).mono ?_
              rintro e w' ⟨rfl, ⟨nd, rfl⟩⟩
              refine ⟨_, rfl, ?_⟩
              refine hK.out _ _ ⟨(blk_cell BK178.out 0).trans rfl, (blk_cell BK178.out 1).trans rfl, (blk_cell BK178.out 2).trans rfl, (blk_cell BK178.out 3).trans rfl, (blk_cell BK170.out 0).trans rfl, (blk_cell BK170.out 1).trans rfl, (blk_cell BK170.out 2).trans rfl⟩ (fun hHeld => ?_)
              clear hK K
              refine norm_ (a' := ?_) ?_ ?_; rotate_left; (show Act.put _ (some 75) _ = _; simp only [Act.put, List.setIfInBounds_toArray, List.set_cons_zero, List.set_cons_succ, i64_w, i32_w]; rfl)
              refine pq_ 16 76 (bL 33 131071) HT_.out rfl rfl ?_
              refine pq_ 17 77 (bL 33 262143) HT_.out rfl rfl ?_
              refine pq_ 18 78 (bL 33 524287) HT_.out rfl rfl ?_
              have H := HZ6.out
              clear HZ6
              by_cases c58 : t181 = true
              ·subst c58
               have H1 : (if x55_3 > 0 then (if 0 ≤ (wrap64 (x55_3 - 1)) then (if (wrap64 (x55_3 - 1)) < (l0_2.length : Int) then ((impl_less.f ((rd_T102 l0_2 (wrap64 (x55_3 - 1))).f0) ((rd_T102 l0_2 (wrap64 (x55_3 - 1))).f1) ((rd_T102 l0_2 (wrap64 (x55_3 - 1))).f2) ((rd_T102 l0_2 (wrap64 (x55_3 - 1))).f3) ((rd_T102 l0_2 x55_3).f0) ((rd_T102 l0_2 x55_3).f1) ((rd_T102 l0_2 x55_3).f2) ((rd_T102 l0_2 x55_3).f3)).bind fun t183 => (if t183 = true then (impl_NetOk.l1 k3 l0_2 (l0_2.length : Int) (wrap64 (x55_3 + 1)) a0_0 l0_1 l0_2) else (some false))) else (none)) else (none)) else (impl_NetOk.l1 k3 l0_2 (l0_2.length : Int) (wrap64 (x55_3 + 1)) a0_0 l0_1 l0_2)) = some r := by rw [if_pos rfl] at H; exact H
               clear H
               have H := H1
               clear H1
               have HZ7 := Aside0.mk H
               clear H
               refine pq_ 19 79 (bL 33 1048575) HT_.out rfl rfl ?_
               refine pq_ 20 80 (bL 33 2097151) HT_.out rfl rfl ?_
               refine pq_ 21 81 (bL 33 4194303) HT_.out rfl rfl ?_
               have H := HZ7.out
               clear HZ7
               by_cases c59 : x55_3 > 0
               ·rw [if_pos c59] at H
                have c59b0 : decide (0 < x55_3) = true := decide_eq_true c59
                (first | rw [c59b0] | (simp only [i64_w, i32_w]; first | rw [c59b0]) | skip)
                clear c59
                obtain ⟨ji60, hji60⟩ : ∃ j_ : Int, (wrap64 (x55_3 - 1)) = j_ := ⟨_, rfl⟩
                replace H : (if 0 ≤ (ji60) then (if (ji60) < (l0_2.length : Int) then ((impl_less.f ((rd_T102 l0_2 (ji60)).f0) ((rd_T102 l0_2 (ji60)).f1) ((rd_T102 l0_2 (ji60)).f2) ((rd_T102 l0_2 (ji60)).f3) ((rd_T102 l0_2 x55_3).f0) ((rd_T102 l0_2 x55_3).f1) ((rd_T102 l0_2 x55_3).f2) ((rd_T102 l0_2 x55_3).f3)).bind fun t183 => (if t183 = true then (impl_NetOk.l1 k3 l0_2 (l0_2.length : Int) (wrap64 (x55_3 + 1)) a0_0 l0_1 l0_2) else (some false))) else (none)) else (none)) = some r := by first | (rw [hji60] at H; exact H) | (simp only [hji60] at H ⊢; exact H)
                (try rw [hji60] at A53)
                (try rw [hji60] at A55)
                (try rw [hji60] at A57)
                have hji60w : (IntKind.i64.wrap (x55_3 - 1)) = ji60 := (i64_w _).trans hji60
                by_cases c61 : 0 ≤ (ji60)
                ·rw [if_pos c61] at H
                 have c61b0 : decide (0 ≤ (ji60)) = true := decide_eq_true c61
                 clear c61
                 by_cases c62 : (ji60) < (l0_2.length : Int)
                 ·rw [if_pos c62] at H
                  have c62b0 : decide ((ji60) < (l0_2.length : Int)) = true := decide_eq_true c62
                  clear c62
                  replace H := Option.bind_eq_some_iff.mp H
                  obtain ⟨t183, A630, H⟩ := H
                  replace H : (if t183 = true then (impl_NetOk.l1 k3 l0_2 (l0_2.length : Int) (wrap64 (x55_3 + 1)) a0_0 l0_1 l0_2) else (some false)) = some r := H
                  have A63 := Aside0.mk A630
                  clear A630
                  have HZ8 := Aside0.mk H
                  clear H
                  have p182 : 0 ≤ ((ji60) : Int) := of_decide_eq_true as_q
                  have q182 : (ji60) < (l0_2.length : Int) := of_decide_eq_true as_q
                  obtain ⟨ad182, e182, hx182_0, hx182_1, hx182_2, hx182_3⟩ := at_T102 HR0_2.out (ji60) p182 q182
                  have hw182_3 := hx182_3
                  have hw182_2 := hx182_2
                  have hw182_1 := hx182_1
                  have hw182_0 := hx182_0
                  obtain rfl : ad177 = ad182 := (by injection e182)
                  replace hx182_0 := (HB.out.cell (World.block_lt_of_cell? w _ hx182_0)).trans hx182_0
                  replace hx182_1 := (HB.out.cell (World.block_lt_of_cell? w _ hx182_1)).trans hx182_1
                  replace hx182_2 := (HB.out.cell (World.block_lt_of_cell? w _ hx182_2)).trans hx182_2
                  replace hx182_3 := (HB.out.cell (World.block_lt_of_cell? w _ hx182_3)).trans hx182_3
                  replace p182 := eq_true p182
                  replace q182 := eq_true q182
                  refine last_weaken (fun w' => w'.cell? ⟨gb178, 0, none⟩ = some (.int .i64 ((rd_T102 l0_2 x55_3).f0)) ∧ w'.cell? ⟨gb178, 1, none⟩ = some (.int .i64 ((rd_T102 l0_2 x55_3).f1)) ∧ w'.cell? ⟨gb178, 2, none⟩ = some (.int .i64 ((rd_T102 l0_2 x55_3).f2)) ∧ w'.cell? ⟨gb178, 3, none⟩ = some (.bool ((rd_T102 l0_2 x55_3).f3)) ∧ w'.cell? ⟨gb170, 0, none⟩ = some (.int .i64 a0_0) ∧ w'.cell? ⟨gb170, 1, none⟩ = some (.slice A0_1 l0_1.length c0_1) ∧ w'.cell? ⟨gb170, 2, none⟩ = some (.slice (some ad177) l0_2.length c0_2) ∧ w'.cell? (ad177.add (((ji60)).toNat * 4)) = some (.int .i64 ((rd_T102 l0_2 (ji60)).f0)) ∧ w'.cell? ⟨(ad177.add (((ji60)).toNat * 4)).block, (ad177.add (((ji60)).toNat * 4)).off + 1, none⟩ = some (.int .i64 ((rd_T102 l0_2 (ji60)).f1)) ∧ w'.cell? ⟨(ad177.add (((ji60)).toNat * 4)).block, (ad177.add (((ji60)).toNat * 4)).off + 2, none⟩ = some (.int .i64 ((rd_T102 l0_2 (ji60)).f2)) ∧ w'.cell? ⟨(ad177.add (((ji60)).toNat * 4)).block, (ad177.add (((ji60)).toNat * 4)).off + 3, none⟩ = some (.bool ((rd_T102 l0_2 (ji60)).f3))) (fun w' h_ => ⟨h_.1, h_.2.1, h_.2.2.1, h_.2.2.2.1, h_.2.2.2.2.1, h_.2.2.2.2.2.1, h_.2.2.2.2.2.2.1⟩) ⟨hHeld.1, hHeld.2.1, hHeld.2.2.1, hHeld.2.2.2.1, hHeld.2.2.2.2.1, hHeld.2.2.2.2.2.1, hHeld.2.2.2.2.2.2, (by first | assumption | exact ((HB.out.cell (World.block_lt_of_cell? w _ hw182_0)).trans hw182_0)), (by first | assumption | exact ((HB.out.cell (World.block_lt_of_cell? w _ hw182_1)).trans hw182_1)), (by first | assumption | exact ((HB.out.cell (World.block_lt_of_cell? w _ hw182_2)).trans hw182_2)), (by first | assumption | exact ((HB.out.cell (World.block_lt_of_cell? w _ hw182_3)).trans hw182_3))⟩ (fun hHeld => ?_)
                  refine pq_ 22 82 (bL 33 8388607) HT_.out rfl rfl ?_
                  refine pq_ 24 84 (bL 33 25165823) HT_.out rfl rfl ?_
                  refine pq_ 25 85 (bL 33 58720255) HT_.out rfl rfl ?_
                  refine take_ (i := 23) (N := some 83) (v := ?_) (a' := ?_) (bL 33 67108863) rfl rfl (take_ofW HT_.out HW_.out (by kernel_rfl)) (fun _ _ _ h => h) (Or.inl ⟨by rfl, ?_⟩) hHeld ?_ ?_; rotate_left; (rintro w' ⟨s0, s1, s2, s3, s4, s5, s6, s7, s8, s9, s10⟩; go_simp; with_reducible rfl); rotate_left; (exact put_q)
                  refine pq_ 26 86 (bL 33 134217727) HT_.out rfl rfl ?_
                  refine take_ (i := 27) (N := some 87) (v := ?_) (a' := ?_) (bL 33 268435455) rfl rfl (take_ofW HT_.out HW_.out (by kernel_rfl)) (fun _ _ _ h => h) (Or.inl ⟨by rfl, ?_⟩) hHeld ?_ ?_; rotate_left; (rintro w' ⟨s0, s1, s2, s3, s4, s5, s6, s7, s8, s9, s10⟩; go_simp; with_reducible rfl); rotate_left; (exact put_q)
                  refine take_ (i := 28) (N := some 88) (v := ?_) (a' := ?_) (bL 33 536870911) rfl rfl (take_ofW HT_.out HW_.out (by kernel_rfl)) (fun _ _ _ h => h) (Or.inl ⟨by rfl, ?_⟩) hHeld ?_ ?_; rotate_left; (rintro w' ⟨s0, s1, s2, s3, s4, s5, s6, s7, s8, s9, s10⟩; go_simp; with_reducible rfl); rotate_left; (exact put_q)
                  refine one_ (i := 29) (N := some 89) (bL 33 1073741823) rfl rfl (one_of HT_.out (by kernel_rfl)) (by decide) (fun K hK => ?_)
                  refine goes_ Try.func83 (by kernel_rfl) rfl #[.agg #[.int .i64 ((rd_T102 l0_2 (ji60)).f0), .int .i64 ((rd_T102 l0_2 (ji60)).f1), .int .i64 ((rd_T102 l0_2 (ji60)).f2), .bool ((rd_T102 l0_2 (ji60)).f3)], .agg #[.int .i64 ((rd_T102 l0_2 x55_3).f0), .int .i64 ((rd_T102 l0_2 x55_3).f1), .int .i64 ((rd_T102 l0_2 x55_3).f2), .bool ((rd_T102 l0_2 x55_3).f3)]] (by rfl) rfl rfl (by (try simp only [List.map_toArray, List.map_cons, List.map_nil]); first | done | (simp only [hji60]; rfl) | rfl | (simp only [List.length_drop, List.length_take]; rfl)) ?_
                  with_reducible refine (impl_less.calls ((rd_T102 l0_2 (ji60)).f0) ((rd_T102 l0_2 (ji60)).f1) ((rd_T102 l0_2 (ji60)).f2) ((rd_T102 l0_2 (ji60)).f3) ((rd_T102 l0_2 x55_3).f0) ((rd_T102 l0_2 x55_3).f1) ((rd_T102 l0_2 x55_3).f2) ((rd_T102 l0_2 x55_3).f3) t183 _ A63.out).mono ?_
                  rintro e w70 ⟨rfl, hb⟩
                  refine ⟨_, rfl, ?_⟩
                  replace BK170 := Aside0.mk (blk_below (g := gb170) (bk_q BK170) hb)
                  replace BK178 := Aside0.mk (blk_below (g := gb178) (bk_q BK178) hb)
                  replace HB := Aside0.mk (below_step (bw_q HB) hb)
                  (try clear hb)
                  (try clear hb2)
                  (try clear hk)
                  (try clear hi)
                  refine hK.out _ _ ⟨(blk_cell BK178.out 0).trans rfl, (blk_cell BK178.out 1).trans rfl, (blk_cell BK178.out 2).trans rfl, (blk_cell BK178.out 3).trans rfl, (blk_cell BK170.out 0).trans rfl, (blk_cell BK170.out 1).trans rfl, (blk_cell BK170.out 2).trans rfl, ((HB.out.cell (World.block_lt_of_cell? w _ hw182_0)).trans hw182_0), ((HB.out.cell (World.block_lt_of_cell? w _ hw182_1)).trans hw182_1), ((HB.out.cell (World.block_lt_of_cell? w _ hw182_2)).trans hw182_2), ((HB.out.cell (World.block_lt_of_cell? w _ hw182_3)).trans hw182_3)⟩ (fun hHeld => ?_)
                  clear hK K
                  refine norm_ (a' := ?_) ?_ ?_; rotate_left; (show Act.put _ (some 89) _ = _; simp only [Act.put, List.setIfInBounds_toArray, List.set_cons_zero, List.set_cons_succ, i64_w, i32_w]; rfl)
                  refine pq_ 30 90 (bL 33 2147483647) HT_.out rfl rfl ?_
                  refine pq_ 31 91 (bL 33 4294967295) HT_.out rfl rfl ?_
                  refine pq_ 32 92 (bL 33 8589934591) HT_.out rfl rfl ?_
                  have H := HZ8.out
                  clear HZ8
                  by_cases c64 : t183 = true
                  ·subst c64
                   have H1 : (impl_NetOk.l1 k3 l0_2 (l0_2.length : Int) (wrap64 (x55_3 + 1)) a0_0 l0_1 l0_2) = some r := by rw [if_pos rfl] at H; exact H
                   clear H
                   have H := H1
                   clear H1
                   have H' := Aside0.mk H
                   clear H
                   refine done_ (done_of HT_.out (by kernel_rfl)) ?_
                   try go_wp2
                   go_roundg k3
                   case measure => have := HJ1.out; have := HK2.out; have := HK3.out; omega
                   case rel => exact ⟨(wrap64 (x55_3 + 1)), (by first | rfl | (simp; done) | (simp [*]; done)), H', ⟨by have := HJ1.out; have := HK2.out; have := HK3.out; omega⟩, ⟨by refine bz_ ?_; exact BK170.out⟩, ⟨bw_q HB⟩⟩
                  ·replace c64 := Bool.eq_false_iff.mpr c64
                   subst c64
                   have H1 : (some false) = some r := by rw [if_neg (show ¬ (false = true) by decide)] at H; exact H
                   clear H
                   have H := H1
                   clear H1
                   obtain rfl := Option.some.inj H
                   refine done_ (done_of HT_.out (by kernel_rfl)) ?_
                   try go_wp2
                   go_ret
                   exact ⟨by first | rfl | (simp [errW_none, errW_some] <;> rfl) | (simp only [← hji60]; first | rfl | (simp [errW_none, errW_some] <;> rfl)) | (simp [*, errW_none, errW_some] <;> rfl), bw_q HB⟩
                 ·rw [if_neg c62] at H
                  exact absurd H (by simp)
                ·rw [if_neg c61] at H
                 exact absurd H (by simp)
               ·rw [if_neg c59] at H
                have c59b0 : decide (0 < x55_3) = false := decide_eq_false c59
                (first | rw [c59b0] | (simp only [i64_w, i32_w]; first | rw [c59b0]) | skip)
                clear c59
                have H' := Aside0.mk H
                clear H
                refine pu_ 22 82 (bL 33 8388607) HT_.out rfl rfl ?_
                refine pu_ 23 83 (bL 33 16777215) HT_.out rfl rfl ?_
                refine pu_ 24 84 (bL 33 33554431) HT_.out rfl rfl ?_
                refine pu_ 25 85 (bL 33 67108863) HT_.out rfl rfl ?_
                refine pu_ 26 86 (bL 33 134217727) HT_.out rfl rfl ?_
                refine pu_ 27 87 (bL 33 268435455) HT_.out rfl rfl ?_
                refine pu_ 28 88 (bL 33 536870911) HT_.out rfl rfl ?_
                refine pu_ 29 89 (bL 33 1073741823) HT_.out rfl rfl ?_
                refine pu_ 30 90 (bL 33 2147483647) HT_.out rfl rfl ?_
                refine pq_ 31 91 (bL 33 4294967295) HT_.out rfl rfl ?_
                refine pq_ 32 92 (bL 33 8589934591) HT_.out rfl rfl ?_
                refine done_ (done_of HT_.out (by kernel_rfl)) ?_
                try go_wp2
                go_roundg k3
                case measure => have := HJ1.out; have := HK2.out; have := HK3.out; omega
                case rel => exact ⟨(wrap64 (x55_3 + 1)), (by first | rfl | (simp; done) | (simp [*]; done)), H', ⟨by have := HJ1.out; have := HK2.out; have := HK3.out; omega⟩, ⟨by refine bz_ ?_; exact BK170.out⟩, ⟨bw_q HB⟩⟩
              ·replace c58 := Bool.eq_false_iff.mpr c58
               subst c58
               have H1 : (some false) = some r := by rw [if_neg (show ¬ (false = true) by decide)] at H; exact H
               clear H
               have H := H1
               clear H1
               obtain rfl := Option.some.inj H
               refine pu_ 19 79 (bL 33 1048575) HT_.out rfl rfl ?_
               refine pu_ 20 80 (bL 33 2097151) HT_.out rfl rfl ?_
               refine pu_ 21 81 (bL 33 4194303) HT_.out rfl rfl ?_
               refine pu_ 22 82 (bL 33 8388607) HT_.out rfl rfl ?_
               refine pu_ 23 83 (bL 33 16777215) HT_.out rfl rfl ?_
               refine pu_ 24 84 (bL 33 33554431) HT_.out rfl rfl ?_
               refine pu_ 25 85 (bL 33 67108863) HT_.out rfl rfl ?_
               refine pu_ 26 86 (bL 33 134217727) HT_.out rfl rfl ?_
               refine pu_ 27 87 (bL 33 268435455) HT_.out rfl rfl ?_
               refine pu_ 28 88 (bL 33 536870911) HT_.out rfl rfl ?_
               refine pu_ 29 89 (bL 33 1073741823) HT_.out rfl rfl ?_
               refine pu_ 30 90 (bL 33 2147483647) HT_.out rfl rfl ?_
               refine pu_ 31 91 (bL 33 4294967295) HT_.out rfl rfl ?_
               refine pq_ 32 92 (bL 33 8589934591) HT_.out rfl rfl ?_
               refine done_ (done_of HT_.out (by kernel_rfl)) ?_
               try go_wp2
               go_ret
               exact ⟨er_q, bw_q HB⟩
             ·replace c56 := Bool.eq_false_iff.mpr c56
              subst c56
              have H1 : (some false) = some r := by rw [if_neg (show ¬ (false = true) by decide)] at H; exact H
              clear H
              have H := H1
              clear H1
              obtain rfl := Option.some.inj H
              refine pu_ 13 73 (bL 33 16383) HT_.out rfl rfl ?_
              refine pu_ 14 74 (bL 33 32767) HT_.out rfl rfl ?_
              refine pu_ 15 75 (bL 33 65535) HT_.out rfl rfl ?_
              refine pu_ 16 76 (bL 33 131071) HT_.out rfl rfl ?_
              refine pq_ 17 77 (bL 33 262143) HT_.out rfl rfl ?_
              refine pq_ 18 78 (bL 33 524287) HT_.out rfl rfl ?_
              refine pu_ 19 79 (bL 33 1048575) HT_.out rfl rfl ?_
              refine pu_ 20 80 (bL 33 2097151) HT_.out rfl rfl ?_
              refine pu_ 21 81 (bL 33 4194303) HT_.out rfl rfl ?_
              refine pu_ 22 82 (bL 33 8388607) HT_.out rfl rfl ?_
              refine pu_ 23 83 (bL 33 16777215) HT_.out rfl rfl ?_
              refine pu_ 24 84 (bL 33 33554431) HT_.out rfl rfl ?_
              refine pu_ 25 85 (bL 33 67108863) HT_.out rfl rfl ?_
              refine pu_ 26 86 (bL 33 134217727) HT_.out rfl rfl ?_
              refine pu_ 27 87 (bL 33 268435455) HT_.out rfl rfl ?_
              refine pu_ 28 88 (bL 33 536870911) HT_.out rfl rfl ?_
              refine pu_ 29 89 (bL 33 1073741823) HT_.out rfl rfl ?_
              refine pu_ 30 90 (bL 33 2147483647) HT_.out rfl rfl ?_
              refine pu_ 31 91 (bL 33 4294967295) HT_.out rfl rfl ?_
              refine pq_ 32 92 (bL 33 8589934591) HT_.out rfl rfl ?_
              refine done_ (done_of HT_.out (by kernel_rfl)) ?_
              try go_wp2
              go_ret
              exact ⟨er_q, bw_q HB⟩
            ·replace c54 := Bool.eq_false_iff.mpr c54
             subst c54
             have H1 : (some false) = some r := by rw [if_neg (show ¬ (false = true) by decide)] at H; exact H
             clear H
             have H := H1
             clear H1
             obtain rfl := Option.some.inj H
             refine pu_ 5 65 (bL 33 63) HT_.out rfl rfl ?_
             refine pu_ 6 66 (bL 33 127) HT_.out rfl rfl ?_
             refine pu_ 7 67 (bL 33 255) HT_.out rfl rfl ?_
             refine pu_ 8 68 (bL 33 511) HT_.out rfl rfl ?_
             refine pu_ 9 69 (bL 33 1023) HT_.out rfl rfl ?_
             refine pu_ 10 70 (bL 33 2047) HT_.out rfl rfl ?_
             refine pq_ 11 71 (bL 33 4095) HT_.out rfl rfl ?_
             refine pq_ 12 72 (bL 33 8191) HT_.out rfl rfl ?_
             refine pu_ 13 73 (bL 33 16383) HT_.out rfl rfl ?_
             refine pu_ 14 74 (bL 33 32767) HT_.out rfl rfl ?_
             refine pu_ 15 75 (bL 33 65535) HT_.out rfl rfl ?_
             refine pu_ 16 76 (bL 33 131071) HT_.out rfl rfl ?_
             refine pq_ 17 77 (bL 33 262143) HT_.out rfl rfl ?_
             refine pq_ 18 78 (bL 33 524287) HT_.out rfl rfl ?_
             refine pu_ 19 79 (bL 33 1048575) HT_.out rfl rfl ?_
             refine pu_ 20 80 (bL 33 2097151) HT_.out rfl rfl ?_
             refine pu_ 21 81 (bL 33 4194303) HT_.out rfl rfl ?_
             refine pu_ 22 82 (bL 33 8388607) HT_.out rfl rfl ?_
             refine pu_ 23 83 (bL 33 16777215) HT_.out rfl rfl ?_
             refine pu_ 24 84 (bL 33 33554431) HT_.out rfl rfl ?_
             refine pu_ 25 85 (bL 33 67108863) HT_.out rfl rfl ?_
             refine pu_ 26 86 (bL 33 134217727) HT_.out rfl rfl ?_
             refine pu_ 27 87 (bL 33 268435455) HT_.out rfl rfl ?_
             refine pu_ 28 88 (bL 33 536870911) HT_.out rfl rfl ?_
             refine pu_ 29 89 (bL 33 1073741823) HT_.out rfl rfl ?_
             refine pu_ 30 90 (bL 33 2147483647) HT_.out rfl rfl ?_
             refine pu_ 31 91 (bL 33 4294967295) HT_.out rfl rfl ?_
             refine pq_ 32 92 (bL 33 8589934591) HT_.out rfl rfl ?_
             refine done_ (done_of HT_.out (by kernel_rfl)) ?_
             try go_wp2
             go_ret
             exact ⟨er_q, bw_q HB⟩
           ·rw [if_neg c52] at H
            exact absurd H (by simp)
          ·rw [if_neg c51] at H
           exact absurd H (by simp)
         ·rw [if_neg c50] at H
          have c50b0 : decide (x55_3 < (l0_2.length : Int)) = false := decide_eq_false c50
          clear c50
          obtain rfl := Option.some.inj H
          go_wp2
          go_ret
          exact ⟨er_q, bw_q HB⟩

end Go.Proofs.Ythjmdiggglkeaaa.Q
