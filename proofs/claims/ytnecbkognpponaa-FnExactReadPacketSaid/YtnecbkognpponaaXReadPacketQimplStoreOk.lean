import Derived.Test.YtnecbkognpponaaXReadPacketQx45
/- The contract of a Go function. -/

namespace Go.Proofs.Ytnecbkognpponaa.Q
open Go.RowKit Go.Proofs.YtnecbkognpponaaW.PrintWords Go.Proofs.YtnecbkognpponaaW.PrintLast Go.Proofs.YtnecbkognpponaaW.PrintMore
attribute [local go_sem] max2_int min2_int max_two min_two max_three min_three max_four min_four   -- for this text's walks alone
set_option linter.unusedVariables false
set_option linter.unusedSimpArgs false

/-! ### impl_in: function 69 -/
def impl_in.f (a0 : Int) (a1 : Int) (a2 : Int) : Option (Bool) := if a0 ≥ a1 then (some (decide (a0 ≤ a2))) else (some false)
set_option maxHeartbeats 8000000 in
set_option maxRecDepth 100000 in
theorem impl_in.calls (a0 : Int) (a1 : Int) (a2 : Int) (r : Bool) (w : World) (h : impl_in.f a0 a1 a2 = some r) :
  Calls Try.prog 69 #[.int .i64 a0, .int .i64 a1, .int .i64 a2] w fun e w' => e = .returned (.bool r) ∧ Drawn0 w w' := by
 have H := h
 clear h; unfold impl_in.f at H
 by_cases c4 : a0 ≥ a1
 ·rw [if_pos c4] at H
  have Aa : decide (a1 ≤ a0) = true := decide_eq_true c4
  clear c4; obtain rfl := Option.some.inj H
  go_enter Try.func69, Try.ntmps69
  go_wp2
  go_ret
  exact ⟨rs_q, dr_q⟩
 ·rw [if_neg c4] at H
  have Aa : decide (a1 ≤ a0) = false := decide_eq_false c4
  clear c4; obtain rfl := Option.some.inj H
  go_enter Try.func69, Try.ntmps69
  go_wp2
  go_ret
  exact ⟨rs_q, dr_q⟩

/-! ### impl_heardUp: function 76 -/
def impl_heardUp.l0 : Nat → List Int → List Int → Int → Int → Option (Bool)
 | 0, _, _, _, _ => none
 | k + 1, c, b, d, a => if a < d then (if 0 ≤ a then (if a < (b.length : Int) then ((impl_in.f (rd b a) 1 6).bind fun e => (if e = true then (if a > 0 then (if 0 ≤ (wrap64 (a - 1)) then (if (wrap64 (a - 1)) < (c.length : Int) then (if (rd c (wrap64 (a - 1))) ≥ (rd b a) then (some false) else (impl_heardUp.l0 k c b d (wrap64 (a + 1)))) else (none)) else (none)) else (impl_heardUp.l0 k c b d (wrap64 (a + 1)))) else (some false))) else (none)) else (none)) else (some true)
def impl_heardUp.f (k : Nat) (l0 : List Int) : Option (Bool) := impl_heardUp.l0 k l0 l0 (l0.length : Int) 0
theorem impl_heardUp.mono_l : ∀ k, (∀ y0 y1 y2 y3, LeO (impl_heardUp.l0 k y0 y1 y2 y3) (impl_heardUp.l0 (k + 1) y0 y1 y2 y3))
 | 0 => fun _ _ _ _ r h => by simp [impl_heardUp.l0] at h
 | k + 1 => by
  have ih0 := impl_heardUp.mono_l k
  ·intro y0 y1 y2 y3
   unfold impl_heardUp.l0
   with_reducible repeat' (first | apply ih0 | exact LeO.refl _ | exact LeO.none _ | refine LeO.ite ?_ ?_ | refine LeO.bind ?_ (fun _ => ?_))
theorem impl_heardUp.mono : ∀ a0 k, LeO (impl_heardUp.f k a0) (impl_heardUp.f (k + 1) a0) := by
 intro a0 k
 have ih0 := impl_heardUp.mono_l k
 unfold impl_heardUp.f
 with_reducible repeat' (first | apply ih0 | exact LeO.refl _ | exact LeO.none _ | refine LeO.ite ?_ ?_ | refine LeO.bind ?_ (fun _ => ?_))
set_option maxHeartbeats 8000000 in
set_option maxRecDepth 100000 in
theorem impl_heardUp.calls (k : Nat) (A0 : Option Addr) (c0 : Nat) (l0 : List Int) (r : Bool) (w : World) (hr0 : Kd.C (Kd.int .i64) w A0 l0.length l0) (hc0 : l0.length ≤ c0) (h : impl_heardUp.f k l0 = some r) :
  Calls Try.prog 76 #[.slice A0 l0.length c0] w fun e w' => e = .returned (.bool r) ∧ Drawn0 w w' := by
 have HR0 := ak hr0; have Ar := ak hc0; clear hr0 hc0; have H := h
 clear h; unfold impl_heardUp.f at H; have H' := ak H; clear H
 go_enter Try.func76, Try.ntmps76
 go_wp2
 go_loopg [7] k (fun kq v7 w' => ∃ (Aa : Int), v7 = .int .i64 Aa ∧ Aside0 (impl_heardUp.l0 kq l0 l0 (l0.length : Int) Aa = some r) ∧ Aside0 (kq ≤ k) ∧ Drawn0 w w')
 case atStart => exact ⟨(0), rs_q, H', ⟨Nat.le_refl _⟩, by repeat (first | exact Drawn0.refl _ | apply Drawn0.step)⟩
 case round =>
  clear H'; obtain ⟨Aa, rfl, HA, Af, ⟨m1, rfl⟩⟩ := hrel
  cases gk with
  | zero => exact absurd HA.out (by simp [impl_heardUp.l0])
  | succ k1 =>
   have H := HA.out; clear HA
   simp only [impl_heardUp.l0] at H
   by_cases c2 : Aa < (l0.length : Int)
   ·rw [if_pos c2] at H
    have Aj : decide (Aa < (l0.length : Int)) = true := decide_eq_true c2
    clear c2
    by_cases c3 : 0 ≤ Aa
    ·rw [if_pos c3] at H
     have Ao : decide (0 ≤ Aa) = true := decide_eq_true c3
     clear c3
     by_cases c4 : Aa < (l0.length : Int)
     ·rw [if_pos c4] at H
      have Ap : decide (Aa < (l0.length : Int)) = true := decide_eq_true c4
      clear c4; replace H := bsi H; obtain ⟨Ak, A50, H⟩ := H
      (try dsimp only at H)
      have A5 := ak A50; clear A50
      by_cases c6 : Ak = true
      ·subst c6; rw [if_pos rfl] at H
       by_cases c7 : Aa > 0
       ·rw [if_pos c7] at H
        have Al : decide (0 < Aa) = true := decide_eq_true c7
        clear c7; obtain ⟨ji8, hji8⟩ : ∃ j_ : Int, (wrap64 (Aa - 1)) = j_ := ⟨_, rfl⟩
        replace H : (if 0 ≤ (ji8) then (if (ji8) < (l0.length : Int) then (if (rd l0 (ji8)) ≥ (rd l0 Aa) then (some false) else (impl_heardUp.l0 k1 l0 l0 (l0.length : Int) (wrap64 (Aa + 1)))) else (none)) else (none)) = some r := by first | (rw [hji8] at H; exact H) | (simp only [hji8] at H ⊢; exact H)
        (try rw [hji8] at A5)
        have hji8w : (IntKind.i64.wrap (Aa - 1)) = ji8 := (i64_w _).trans hji8
        by_cases c9 : 0 ≤ (ji8)
        ·rw [if_pos c9] at H
         have Aq : decide (0 ≤ (ji8)) = true := decide_eq_true c9
         clear c9
         by_cases c10 : (ji8) < (l0.length : Int)
         ·rw [if_pos c10] at H
          have An : decide ((ji8) < (l0.length : Int)) = true := decide_eq_true c10
          clear c10; have Ag := ak H; clear H
          have p266 : 0 ≤ (Aa : Int) := of_decide_eq_true as_q
          have q266 : Aa < (l0.length : Int) := of_decide_eq_true as_q
          obtain ⟨Ad, e266, Ab⟩ := Kd.at_int HR0.out Aa p266 q266
          cases e266
          replace p266 := eq_true p266; replace q266 := eq_true q266
          go_upto_if 27 with (first | ((with_reducible refine gate_callee (f := 69) rfl ?_); refine goesL_ (some 13) rfl rfl Try.func69 (by kernel_rfl) rfl #[.int .i64 (rd l0 Aa), .int .i64 1, .int .i64 6] rfl mp_q ?_; (with_reducible refine (impl_in.calls (rd l0 Aa) 1 6 true _ A5.out).mono ?_); rintro e w' ⟨rfl, ⟨nd, rfl⟩⟩; refine ⟨_, rfl, ?_⟩; have p268 : 0 ≤ ((ji8) : Int) := of_decide_eq_true as_q; have q268 : (ji8) < (l0.length : Int) := of_decide_eq_true as_q; obtain ⟨Ai, e268, Am⟩ := Kd.at_int HR0.out (ji8) p268 q268; obtain rfl : Ad = Ai := (by injection e268); replace p268 := eq_true p268; replace q268 := eq_true q268))
          (try clear Ab); have H := Ag.out; clear Ag
          by_cases c12 : (rd l0 (ji8)) ≥ (rd l0 Aa)
          ·rw [if_pos c12] at H
           have Ac : decide ((rd l0 Aa) ≤ (rd l0 (ji8))) = true := decide_eq_true c12
           clear c12
           (first | rw [Ac] | rw [Ae] | (simp only [i64_w, i32_w]; first | rw [Ac] | rw [Ae]) | skip)
           obtain rfl := Option.some.inj H
           go_wp2
           go_ret
           exact ⟨by first | rfl | (simp; done) | (simp only [← hji8] <;> (first | rfl | simp)) | (simp [*]; done), by repeat (first | exact Drawn0.refl _ | apply Drawn0.step)⟩
          ·rw [if_neg c12] at H
           have Ac : decide ((rd l0 Aa) ≤ (rd l0 (ji8))) = false := decide_eq_false c12
           clear c12
           (first | rw [Ac] | rw [Ae] | (simp only [i64_w, i32_w]; first | rw [Ac] | rw [Ae]) | skip)
           have H' := ak H; clear H
           go_wp2
           go_roundg k1
           case measure => have := Af.out; omega
           case rel => exact ⟨(wrap64 (Aa + 1)), rs_q, H', ⟨by have := Af.out; omega⟩, by repeat (first | exact Drawn0.refl _ | apply Drawn0.step)⟩
         ·rw [if_neg c10] at H
          exact absurd H (by simp)
        ·rw [if_neg c9] at H
         exact absurd H (by simp)
       ·rw [if_neg c7] at H
        have Al : decide (0 < Aa) = false := decide_eq_false c7
        clear c7; have Ah := ak H; clear H
        have p266 : 0 ≤ (Aa : Int) := of_decide_eq_true as_q
        have q266 : Aa < (l0.length : Int) := of_decide_eq_true as_q
        obtain ⟨Ad, e266, Ab⟩ := Kd.at_int HR0.out Aa p266 q266
        cases e266
        replace p266 := eq_true p266; replace q266 := eq_true q266
        go_upto_if 27 with (first | ((with_reducible refine gate_callee (f := 69) rfl ?_); refine goesL_ (some 13) rfl rfl Try.func69 (by kernel_rfl) rfl #[.int .i64 (rd l0 Aa), .int .i64 1, .int .i64 6] rfl mp_q ?_; (with_reducible refine (impl_in.calls (rd l0 Aa) 1 6 true _ A5.out).mono ?_); rintro e w' ⟨rfl, ⟨nd, rfl⟩⟩; refine ⟨_, rfl, ?_⟩))
        (try clear Ab); have H := Ah.out; clear Ah; have H' := ak H; clear H
        go_wp2
        go_roundg k1
        case measure => have := Af.out; omega
        case rel => exact ⟨(wrap64 (Aa + 1)), rs_q, H', ⟨by have := Af.out; omega⟩, by repeat (first | exact Drawn0.refl _ | apply Drawn0.step)⟩
      ·replace c6 := Bool.eq_false_iff.mpr c6; subst c6
       rw [if_neg (show ¬ (false = true) by decide)] at H
       obtain rfl := Option.some.inj H
       have p266 : 0 ≤ (Aa : Int) := of_decide_eq_true as_q
       have q266 : Aa < (l0.length : Int) := of_decide_eq_true as_q
       obtain ⟨Ad, e266, Ab⟩ := Kd.at_int HR0.out Aa p266 q266
       cases e266
       replace p266 := eq_true p266; replace q266 := eq_true q266
       go_wp2_with (first | ((with_reducible refine gate_callee (f := 69) rfl ?_); refine goesL_ (some 13) rfl rfl Try.func69 (by kernel_rfl) rfl #[.int .i64 (rd l0 Aa), .int .i64 1, .int .i64 6] rfl mp_q ?_; (with_reducible refine (impl_in.calls (rd l0 Aa) 1 6 false _ A5.out).mono ?_); rintro e w' ⟨rfl, ⟨nd, rfl⟩⟩; refine ⟨_, rfl, ?_⟩))
       go_ret
       exact ⟨rs_q, dr_q⟩
     ·rw [if_neg c4] at H
      exact absurd H (by simp)
    ·rw [if_neg c3] at H
     exact absurd H (by simp)
   ·rw [if_neg c2] at H
    have Aj : decide (Aa < (l0.length : Int)) = false := decide_eq_false c2
    clear c2; obtain rfl := Option.some.inj H
    go_wp2
    go_ret
    exact ⟨rs_q, dr_q⟩

/-! ### impl_nearOk: function 70 -/
def impl_nearOk.l0 : Nat → List (S63) → Int → Int → Int → Int → Int → Int → Int → List (S63) → Int → Bool → Option (Bool)
 | 0, _, _, _, _, _, _, _, _, _, _, _ => none
 | k + 1, l, m, b, d, e, c, g, h, a, i, j => if b < m then (if 0 ≤ b then (if b < (l.length : Int) then ((impl_in.f ((rd_T63 l b).f0) 1 6).bind fun n => (if n = true then (if ((rd_T63 l b).f0) = c then (some false) else ((impl_in.f ((rd_T63 l b).f1) 1 1000).bind fun o => (if o = true then (if b > 0 then (if 0 ≤ (wrap64 (b - 1)) then (if (wrap64 (b - 1)) < (a.length : Int) then (if ((rd_T63 a (wrap64 (b - 1))).f0) ≥ ((rd_T63 l b).f0) then (some false) else (impl_nearOk.l0 k l m (wrap64 (b + 1)) d e c g h a i j)) else (none)) else (none)) else (impl_nearOk.l0 k l m (wrap64 (b + 1)) d e c g h a i j)) else (some false)))) else (some false))) else (none)) else (none)) else (some true)
def impl_nearOk.f (k : Nat) (b : Int) (c : Int) (d : Int) (e : Int) (g : Int) (a : List (S63)) (h : Int) (i : Bool) : Option (Bool) := impl_nearOk.l0 k a (a.length : Int) 0 b c d e g a h i
theorem impl_nearOk.mono_l : ∀ k, (∀ y0 y1 y2 y3 y4 y5 y6 y7 y8 y9 y10, LeO (impl_nearOk.l0 k y0 y1 y2 y3 y4 y5 y6 y7 y8 y9 y10) (impl_nearOk.l0 (k + 1) y0 y1 y2 y3 y4 y5 y6 y7 y8 y9 y10))
 | 0 => fun _ _ _ _ _ _ _ _ _ _ _ r h => by simp [impl_nearOk.l0] at h
 | k + 1 => by
  have ih0 := impl_nearOk.mono_l k
  ·intro y0 y1 y2 y3 y4 y5 y6 y7 y8 y9 y10
   unfold impl_nearOk.l0
   with_reducible repeat' (first | apply ih0 | exact LeO.refl _ | exact LeO.none _ | refine LeO.ite ?_ ?_ | refine LeO.bind ?_ (fun _ => ?_))
theorem impl_nearOk.mono : ∀ a0 a1 a2 a3 a4 a5 a6 a7 k, LeO (impl_nearOk.f k a0 a1 a2 a3 a4 a5 a6 a7) (impl_nearOk.f (k + 1) a0 a1 a2 a3 a4 a5 a6 a7) := by
 intro a0 a1 a2 a3 a4 a5 a6 a7 k
 have ih0 := impl_nearOk.mono_l k
 unfold impl_nearOk.f
 with_reducible repeat' (first | apply ih0 | exact LeO.refl _ | exact LeO.none _ | refine LeO.ite ?_ ?_ | refine LeO.bind ?_ (fun _ => ?_))
def impl_nearOk.T4 : Bool × List (List Nat × List Nat) := (true, [([], []), ([0], [0]), ([1], [1]), ([2], [2]), ([3, 2], [3]), ([4], [4]), ([5, 4], [4, 5]), ([4], [4]), ([7, 4], [4, 7]), ([6, 8, 4], [4, 6, 8]), ([4, 9], [4, 9]), ([10, 4], [10]), ([11], [11]), ([12, 11], [11, 12]), ([13, 11, 11], [11, 13]), ([14, 11], [11, 14]), ([11, 15], [11, 15]), ([16, 14], [16]), ([17], [17]), ([18, 17], [17, 18]), ([19, 17, 17], [17, 19]), ([20], [20]), ([21, 20], [20, 21]), ([20], [20]), ([23, 20], [20, 23]), ([22, 24, 20], [20, 22, 24]), ([25, 20], [20, 25]), ([26, 20], [20, 26]), ([20], [20]), ([28, 20], [20, 28]), ([27, 29, 20], [20, 27, 29]), ([20, 30, 17], [17, 20, 30]), ([17, 31], [17, 31])])
def impl_nearOk.B4 : List Nat := [0, 1, 3, 7, 15, 31, 63, 31, 159, 511, 1023, 2047, 4095, 8191, 16383, 32767, 65535, 131071, 262143, 524287, 1048575, 2097151, 4194303, 2097151, 10485759, 33554431, 67108863, 134217727, 2097151, 270532607, 1073741823, 2147483647, 4294967295]
theorem impl_nearOk.tab4 : rtab .any (opsOf Try.f70 4) = impl_nearOk.T4 := by kernel_rfl
theorem impl_nearOk.bits4 : waitsOk impl_nearOk.T4.2 impl_nearOk.B4 = true := by kernel_rfl
set_option maxHeartbeats 8000000 in
set_option maxRecDepth 100000 in
theorem impl_nearOk.calls (k : Nat) (Ai : Int) (Aj : Int) (Af : Int) (Ak : Int) (Al : Int) (Ay : Option Addr) (Ao : Nat) (Aa : List (S63)) (Am : Int) (An : Bool) (r : Bool) (w : World) (hr0_5 : Kd.C k63 w Ay Aa.length Aa) (hc0_5 : Aa.length ≤ Ao) (h : impl_nearOk.f k Ai Aj Af Ak Al Aa Am An = some r) :
  Calls Try.prog 70 #[.agg #[.int .i64 Ai, .int .i64 Aj, .int .i64 Af, .int .i64 Ak, .int .i64 Al, .slice Ay Aa.length Ao, .int .i64 Am, .bool An]] w fun e w' => e = .returned (.bool r) ∧ Below w.heap.size w w' := by
 have hu24 := Try.underlying24; have hu63 := Try.underlying63; have Ba := ak hr0_5; have Ca := ak hc0_5; clear hr0_5 hc0_5; have HB := ak (Below.refl w.heap.size w); have H := h
 clear h; unfold impl_nearOk.f at H; have H' := ak H; clear H
 go_enter Try.func70, Try.ntmps70
 go_wp2_with (first | ((with_reducible refine gate_dst (N := 1) rfl ?_); refine box_q 1 #[.int .i64 Ai, .int .i64 Aj, .int .i64 Af, .int .i64 Ak, .int .i64 Al, .slice Ay Aa.length Ao, .int .i64 Am, .bool An] 24 ?_; intro Ad hg w2 hbox hb; have Ac := ak (hbox); have Cb := gsz w (below_size (bw_q HB)) hg; have Cc := gsz w (below_size (bw_q HB)) hg; replace HB := ak (below_step (bw_q HB) hb); clear hb hbox hg; obtain ⟨Bc, Bd, Be, Bf, Bg, Bh, Bi, Bj, Bk, Bl, Bm, Bn, Bo, Bp, Bq, Br⟩ := cf8_ Ac))
 go_loopg [8] k (fun kq v8 w' => ∃ (Ab : Int), v8 = .int .i64 Ab ∧ Aside0 (impl_nearOk.l0 kq Aa (Aa.length : Int) Ab Ai Aj Af Ak Al Aa Am An = some r) ∧ Aside0 (kq ≤ k) ∧ Aside0 (w'.heap[Ad]? = some (.cells #[.int .i64 Ai, .int .i64 Aj, .int .i64 Af, .int .i64 Ak, .int .i64 Al, (.slice Ay Aa.length Ao), .int .i64 Am, .bool An] 24 (0, 0))) ∧ Aside0 (Below w.heap.size w w'))
 case atStart => exact ⟨(0), rs_q, H', ⟨Nat.le_refl _⟩, ⟨bk_q Ac⟩, ⟨bw_q HB⟩⟩
 case round =>
  clear H'; (try clear p2)
  try clear Bc Bd Be Bf Bg Bh Bi Bj
  try clear Bk Bl Bm Bn Bo Bp Bq Br
  obtain ⟨Ab, rfl, HA, Bb, Ac, HB⟩ := hrel
  cases gk with
  | zero => exact absurd HA.out (by simp [impl_nearOk.l0])
  | succ k1 =>
   have H := HA.out; clear HA
   simp only [impl_nearOk.l0] at H
   by_cases c4 : Ab < (Aa.length : Int)
   ·rw [if_pos c4] at H
    have Bv : decide (Ab < (Aa.length : Int)) = true := decide_eq_true c4
    clear c4
    by_cases c5 : 0 ≤ Ab
    ·rw [if_pos c5] at H
     have Cj : decide (0 ≤ Ab) = true := decide_eq_true c5
     clear c5
     by_cases c6 : Ab < (Aa.length : Int)
     ·rw [if_pos c6] at H
      have Ck : decide (Ab < (Aa.length : Int)) = true := decide_eq_true c6
      clear c6; replace H := bsi H; obtain ⟨Bs, A70, H⟩ := H
      (try dsimp only at H)
      have A7 := ak A70; clear A70; have HZ4 := ak H; clear H
      have p270 : 0 ≤ (Ab : Int) := of_decide_eq_true as_q
      have q270 : Ab < (Aa.length : Int) := of_decide_eq_true as_q
      obtain ⟨Ah, e270, Aw, Ax⟩ := at_T63 Ba.out Ab p270 q270
      cases e270
      replace Aw := hbc HB Aw; replace Ax := hbc HB Ax; replace p270 := eq_true p270; replace q270 := eq_true q270
      try go_wp2_with (first | ((with_reducible refine gate_dst (N := 4) rfl ?_); refine box_q 4 #[.int .i64 0, .int .i64 0] 63 ?_; intro Ae hg w10 hbox hb; have Ag := ak (hbox); have Cd := gsz w (below_size (bw_q HB)) hg; have Ce := gsz w (below_size (bw_q HB)) hg; replace HB := ak (below_step (bw_q HB) hb); have Ap := ak ((by rw [hg]; exact Nat.ne_of_lt (blk_lt (g := Ad) (o := .cells #[.int .i64 Ai, .int .i64 Aj, .int .i64 Af, .int .i64 Ak, .int .i64 Al, .slice (some Ah) Aa.length Ao, .int .i64 Am, .bool An] 24 (0, 0)) (bk_q Ac)) : Ad ≠ Ae)); have Az := ak ((by rw [hg]; exact Nat.ne_of_gt (blk_lt (g := Ad) (o := .cells #[.int .i64 Ai, .int .i64 Aj, .int .i64 Af, .int .i64 Ak, .int .i64 Al, .slice (some Ah) Aa.length Ao, .int .i64 Am, .bool An] 24 (0, 0)) (bk_q Ac)) : Ae ≠ Ad)); replace Ac := ak (blk_below (g := Ad) (bk_q Ac) hb); clear hb hbox hg; have Cf := Az.out; have Cg := Ap.out; obtain ⟨Bw, Bx, By, Bz⟩ := cf2_ Ag))
      have n0_ : Aside0 (((w10.setCell ⟨Ae, 0, none⟩ (.int .i64 ((rd_T63 Aa Ab).f0))).setCell ⟨Ae, 1, none⟩ (.int .i64 ((rd_T63 Aa Ab).f1))).heap[Ad]? = some (.cells #[.int .i64 Ai, .int .i64 Aj, .int .i64 Af, .int .i64 Ak, .int .i64 Al, .slice (some Ah) Aa.length Ao, .int .i64 Am, .bool An] 24 (0, 0))) := ⟨by refine bz_ ?_; refine blk_far ?_ Ap.out _; refine bz_ ?_; refine blk_far ?_ Ap.out _; refine bz_ ?_; exact Ac.out⟩
      have n1_ : Aside0 (((w10.setCell ⟨Ae, 0, none⟩ (.int .i64 ((rd_T63 Aa Ab).f0))).setCell ⟨Ae, 1, none⟩ (.int .i64 ((rd_T63 Aa Ab).f1))).heap[Ae]? = some (.cells #[.int .i64 ((rd_T63 Aa Ab).f0), .int .i64 ((rd_T63 Aa Ab).f1)] 63 (0, 0))) := ⟨by refine bz_ ?_; refine blk_put (cs := #[.int .i64 ((rd_T63 Aa Ab).f0), .int .i64 0]) ?_ 1 _ rfl; refine bz_ ?_; refine blk_put (cs := #[.int .i64 0, .int .i64 0]) ?_ 0 _ rfl; refine bz_ ?_; exact Ag.out⟩
      have n2_ : Aside0 (Below w.heap.size w ((w10.setCell ⟨Ae, 0, none⟩ (.int .i64 ((rd_T63 Aa Ab).f0))).setCell ⟨Ae, 1, none⟩ (.int .i64 ((rd_T63 Aa Ab).f1)))) := ⟨bw_q HB⟩
      (try clear Ac); (try clear Ag); (try clear HB)
      generalize ((w10.setCell ⟨Ae, 0, none⟩ (.int .i64 ((rd_T63 Aa Ab).f0))).setCell ⟨Ae, 1, none⟩ (.int .i64 ((rd_T63 Aa Ab).f1))) = w13 at n0_ n1_ n2_ ⊢
      have Ac := n0_; have Ag := n1_; have HB := n2_; clear n0_ n1_ n2_; replace Ac := ak (blk_drew Ac.out); replace Ag := ak (blk_drew Ag.out); replace HB := ak (below_drew1 HB.out)
      refine start_ (n := 33) (S := fun w' => w'.cell? ⟨Ae, 0, none⟩ = some (.int .i64 ((rd_T63 Aa Ab).f0)) ∧ w'.cell? ⟨Ae, 1, none⟩ = some (.int .i64 ((rd_T63 Aa Ab).f1))) (ds := []) (bL 33 0) (by kernel_rfl) rfl rfl (cz2_ Ag) (fun hHeld => ?_); refine with_tabW impl_nearOk.tab4 impl_nearOk.bits4 (fun HT_ HW_ => ?_)
      generalize w13.drew = w14 at Ac Ag HB hHeld ⊢
      refine pq_ 0 13 (bL 33 1) HT_.out rfl rfl ?_
      refine take_ (i := 1) (N := some 14) (v := ?_) (a' := ?_) (bL 33 3) rfl rfl (take_ofW HT_.out HW_.out (by kernel_rfl)) (fun _ _ _ h => h) (Or.inl ⟨by rfl, ?_⟩) hHeld ?_ ?_; rotate_left; (rintro w' ⟨s0, s1⟩; go_simp; with_reducible rfl); rotate_left; (exact put_q)
      refine one_ (i := 2) (N := some 15) (bL 33 7) rfl rfl (one_of HT_.out (by kernel_rfl)) (by decide) (fun K hK => ?_)
      refine goes_ Try.func69 (by kernel_rfl) rfl #[.int .i64 ((rd_T63 Aa Ab).f0), .int .i64 1, .int .i64 6] (by rfl) rfl rfl mp_q ?_
      with_reducible refine (impl_in.calls ((rd_T63 Aa Ab).f0) 1 6 Bs _ A7.out).mono ?_
      rintro e w' ⟨rfl, ⟨nd, rfl⟩⟩
      refine ⟨_, rfl, ?_⟩
      refine hK.out _ _ (cz2_ Ag) (fun hHeld => ?_)
      clear hK K
      refine norm_ (a' := ?_) ?_ ?_; rotate_left; (show Act.put _ (some 15) _ = _; simp only [Act.put, List.setIfInBounds_toArray, List.set_cons_zero, List.set_cons_succ, i64_w, i32_w]; rfl)
      refine pq_ 3 16 (bL 33 15) HT_.out rfl rfl ?_
      refine pq_ 4 17 (bL 33 31) HT_.out rfl rfl ?_
      have H := HZ4.out; clear HZ4
      by_cases c8 : Bs = true
      ·subst c8; rw [if_pos rfl] at H; have HZ5 := ak H; clear H
       refine last_weaken (fun w' => w'.cell? ⟨Ae, 0, none⟩ = some (.int .i64 ((rd_T63 Aa Ab).f0)) ∧ w'.cell? ⟨Ae, 1, none⟩ = some (.int .i64 ((rd_T63 Aa Ab).f1)) ∧ w'.cell? ⟨Ad, 0, none⟩ = some (.int .i64 Ai) ∧ w'.cell? ⟨Ad, 1, none⟩ = some (.int .i64 Aj) ∧ w'.cell? ⟨Ad, 2, none⟩ = some (.int .i64 Af) ∧ w'.cell? ⟨Ad, 3, none⟩ = some (.int .i64 Ak) ∧ w'.cell? ⟨Ad, 4, none⟩ = some (.int .i64 Al) ∧ w'.cell? ⟨Ad, 5, none⟩ = some (.slice (some Ah) Aa.length Ao) ∧ w'.cell? ⟨Ad, 6, none⟩ = some (.int .i64 Am) ∧ w'.cell? ⟨Ad, 7, none⟩ = some (.bool An)) (fun w' h_ => ⟨h_.1, h_.2.1⟩) ⟨hHeld.1, hHeld.2, (by first | assumption | exact (blk_cell Ac.out 0).trans rfl), (by first | assumption | exact (blk_cell Ac.out 1).trans rfl), (by first | assumption | exact (blk_cell Ac.out 2).trans rfl), (by first | assumption | exact (blk_cell Ac.out 3).trans rfl), (by first | assumption | exact (blk_cell Ac.out 4).trans rfl), (by first | assumption | exact (blk_cell Ac.out 5).trans rfl), (by first | assumption | exact (blk_cell Ac.out 6).trans rfl), (by first | assumption | exact (blk_cell Ac.out 7).trans rfl)⟩ (fun hHeld => ?_)
       refine pq_ 5 18 (bL 33 63) HT_.out rfl rfl ?_
       refine pq_ 7 20 (bL 33 191) HT_.out rfl rfl ?_
       refine take_ (i := 6) (N := some 19) (v := ?_) (a' := ?_) (bL 33 255) rfl rfl (take_ofW HT_.out HW_.out (by kernel_rfl)) (fun _ _ _ h => h) (Or.inl ⟨by rfl, ?_⟩) hHeld ?_ ?_; rotate_left; (rintro w' ⟨s0, s1, s2, s3, s4, s5, s6, s7, s8, s9⟩; go_simp; with_reducible rfl); rotate_left; (exact put_q)
       refine take_ (i := 8) (N := some 21) (v := ?_) (a' := ?_) (bL 33 511) rfl rfl (take_ofW HT_.out HW_.out (by kernel_rfl)) (fun _ _ _ h => h) (Or.inl ⟨by rfl, ?_⟩) hHeld ?_ ?_; rotate_left; (rintro w' ⟨s0, s1, s2, s3, s4, s5, s6, s7, s8, s9⟩; go_simp; with_reducible rfl); rotate_left; (exact put_q)
       refine pq_ 9 22 (bL 33 1023) HT_.out rfl rfl ?_
       refine pq_ 10 23 (bL 33 2047) HT_.out rfl rfl ?_
       refine pq_ 11 24 (bL 33 4095) HT_.out rfl rfl ?_
       have H := HZ5.out; clear HZ5
       by_cases c9 : ((rd_T63 Aa Ab).f0) = Af
       ·rw [if_pos c9] at H
        have Au : (((rd_T63 Aa Ab).f0) == Af) = true := bqi c9
        have Av : (((rd_T63 Aa Ab).f0) != Af) = false := bnf c9
        (first | rw [Au] | rw [Av] | (simp only [i64_w, i32_w]; first | rw [Au] | rw [Av]) | skip)
        clear c9; obtain rfl := Option.some.inj H
        refine pu_ 12 25 (bL 33 8191) HT_.out rfl rfl ?_
        refine pu_ 13 26 (bL 33 16383) HT_.out rfl rfl ?_
        refine pu_ 14 27 (bL 33 32767) HT_.out rfl rfl ?_
        refine pu_ 15 28 (bL 33 65535) HT_.out rfl rfl ?_
        refine pq_ 16 29 (bL 33 131071) HT_.out rfl rfl ?_
        refine pq_ 17 30 (bL 33 262143) HT_.out rfl rfl ?_
        refine pu_ 18 31 (bL 33 524287) HT_.out rfl rfl ?_
        refine pu_ 19 32 (bL 33 1048575) HT_.out rfl rfl ?_
        refine pu_ 20 33 (bL 33 2097151) HT_.out rfl rfl ?_
        refine pu_ 21 34 (bL 33 4194303) HT_.out rfl rfl ?_
        refine pu_ 22 35 (bL 33 8388607) HT_.out rfl rfl ?_
        refine pu_ 23 36 (bL 33 16777215) HT_.out rfl rfl ?_
        refine pu_ 24 37 (bL 33 33554431) HT_.out rfl rfl ?_
        refine pu_ 25 38 (bL 33 67108863) HT_.out rfl rfl ?_
        refine pu_ 26 39 (bL 33 134217727) HT_.out rfl rfl ?_
        refine pu_ 27 40 (bL 33 268435455) HT_.out rfl rfl ?_
        refine pu_ 28 41 (bL 33 536870911) HT_.out rfl rfl ?_
        refine pu_ 29 42 (bL 33 1073741823) HT_.out rfl rfl ?_
        refine pu_ 30 43 (bL 33 2147483647) HT_.out rfl rfl ?_
        refine pu_ 31 44 (bL 33 4294967295) HT_.out rfl rfl ?_
        refine pq_ 32 45 (bL 33 8589934591) HT_.out rfl rfl ?_
        refine done_ (done_of HT_.out (by kernel_rfl)) ?_
        try go_wp2
        go_ret
        exact ⟨er_q, bw_q HB⟩
       ·rw [if_neg c9] at H
        have Au : (((rd_T63 Aa Ab).f0) == Af) = false := bqf c9
        have Av : (((rd_T63 Aa Ab).f0) != Af) = true := bni c9
        (first | rw [Au] | rw [Av] | (simp only [i64_w, i32_w]; first | rw [Au] | rw [Av]) | skip)
        replace H := bsi H; obtain ⟨Bt, A150, H⟩ := H
        (try dsimp only at H)
        have A15 := ak A150; clear A150; have HZ6 := ak H; clear H
        refine pq_ 12 25 (bL 33 8191) HT_.out rfl rfl ?_
        refine take_ (i := 13) (N := some 26) (v := ?_) (a' := ?_) (bL 33 16383) rfl rfl (take_ofW HT_.out HW_.out (by kernel_rfl)) (fun _ _ _ h => h) (Or.inl ⟨by rfl, ?_⟩) hHeld ?_ ?_; rotate_left; (rintro w' ⟨s0, s1, s2, s3, s4, s5, s6, s7, s8, s9⟩; go_simp; with_reducible rfl); rotate_left; (exact put_q)
        refine one_ (i := 14) (N := some 27) (bL 33 32767) rfl rfl (one_of HT_.out (by kernel_rfl)) (by decide) (fun K hK => ?_)
        refine goes_ Try.func69 (by kernel_rfl) rfl #[.int .i64 ((rd_T63 Aa Ab).f1), .int .i64 1, .int .i64 1000] (by rfl) rfl rfl mp_q ?_
        with_reducible refine (impl_in.calls ((rd_T63 Aa Ab).f1) 1 1000 Bt _ A15.out).mono ?_
        rintro e w' ⟨rfl, ⟨nd, rfl⟩⟩
        refine ⟨_, rfl, ?_⟩
        refine hK.out _ _ ⟨(blk_cell Ag.out 0).trans rfl, (blk_cell Ag.out 1).trans rfl, (blk_cell Ac.out 0).trans rfl, (blk_cell Ac.out 1).trans rfl, (blk_cell Ac.out 2).trans rfl, (blk_cell Ac.out 3).trans rfl, (blk_cell Ac.out 4).trans rfl, (blk_cell Ac.out 5).trans rfl, (blk_cell Ac.out 6).trans rfl, (blk_cell Ac.out 7).trans rfl⟩ (fun hHeld => ?_)
        clear hK K
        refine norm_ (a' := ?_) ?_ ?_; rotate_left; (show Act.put _ (some 27) _ = _; simp only [Act.put, List.setIfInBounds_toArray, List.set_cons_zero, List.set_cons_succ, i64_w, i32_w]; rfl)
        refine pq_ 15 28 (bL 33 65535) HT_.out rfl rfl ?_
        refine pq_ 16 29 (bL 33 131071) HT_.out rfl rfl ?_
        refine pq_ 17 30 (bL 33 262143) HT_.out rfl rfl ?_
        have H := HZ6.out; clear HZ6
        by_cases c16 : Bt = true
        ·subst c16; rw [if_pos rfl] at H; have HZ7 := ak H; clear H
         refine pq_ 18 31 (bL 33 524287) HT_.out rfl rfl ?_
         refine pq_ 19 32 (bL 33 1048575) HT_.out rfl rfl ?_
         refine pq_ 20 33 (bL 33 2097151) HT_.out rfl rfl ?_
         have H := HZ7.out; clear HZ7
         by_cases c17 : Ab > 0
         ·rw [if_pos c17] at H
          have Aq : decide (0 < Ab) = true := decide_eq_true c17
          (first | rw [Aq] | (simp only [i64_w, i32_w]; first | rw [Aq]) | skip)
          clear c17; obtain ⟨ji18, hji18⟩ : ∃ j_ : Int, (wrap64 (Ab - 1)) = j_ := ⟨_, rfl⟩
          replace H : (if 0 ≤ (ji18) then (if (ji18) < (Aa.length : Int) then (if ((rd_T63 Aa (ji18)).f0) ≥ ((rd_T63 Aa Ab).f0) then (some false) else (impl_nearOk.l0 k1 Aa (Aa.length : Int) (wrap64 (Ab + 1)) Ai Aj Af Ak Al Aa Am An)) else (none)) else (none)) = some r := by first | (rw [hji18] at H; exact H) | (simp only [hji18] at H ⊢; exact H)
          (try rw [hji18] at A7)
          (try rw [hji18] at A15)
          have hji18w : (IntKind.i64.wrap (Ab - 1)) = ji18 := (i64_w _).trans hji18
          by_cases c19 : 0 ≤ (ji18)
          ·rw [if_pos c19] at H
           have Ch : decide (0 ≤ (ji18)) = true := decide_eq_true c19
           clear c19
           by_cases c20 : (ji18) < (Aa.length : Int)
           ·rw [if_pos c20] at H
            have Ci : decide ((ji18) < (Aa.length : Int)) = true := decide_eq_true c20
            clear c20; have HZ8 := ak H; clear H
            have p274 : 0 ≤ ((ji18) : Int) := of_decide_eq_true as_q
            have q274 : (ji18) < (Aa.length : Int) := of_decide_eq_true as_q
            obtain ⟨Bu, e274, As, At⟩ := at_T63 Ba.out (ji18) p274 q274; have hw274_1 := At; have hw274_0 := As
            obtain rfl : Ah = Bu := (by injection e274)
            replace As := hbc HB As; replace At := hbc HB At; replace p274 := eq_true p274; replace q274 := eq_true q274
            refine last_weaken (fun w' => w'.cell? ⟨Ae, 0, none⟩ = some (.int .i64 ((rd_T63 Aa Ab).f0)) ∧ w'.cell? ⟨Ae, 1, none⟩ = some (.int .i64 ((rd_T63 Aa Ab).f1)) ∧ w'.cell? ⟨Ad, 0, none⟩ = some (.int .i64 Ai) ∧ w'.cell? ⟨Ad, 1, none⟩ = some (.int .i64 Aj) ∧ w'.cell? ⟨Ad, 2, none⟩ = some (.int .i64 Af) ∧ w'.cell? ⟨Ad, 3, none⟩ = some (.int .i64 Ak) ∧ w'.cell? ⟨Ad, 4, none⟩ = some (.int .i64 Al) ∧ w'.cell? ⟨Ad, 5, none⟩ = some (.slice (some Ah) Aa.length Ao) ∧ w'.cell? ⟨Ad, 6, none⟩ = some (.int .i64 Am) ∧ w'.cell? ⟨Ad, 7, none⟩ = some (.bool An) ∧ w'.cell? (Ah.add (((ji18)).toNat * 2)) = some (.int .i64 ((rd_T63 Aa (ji18)).f0)) ∧ w'.cell? ⟨(Ah.add (((ji18)).toNat * 2)).block, (Ah.add (((ji18)).toNat * 2)).off + 1, none⟩ = some (.int .i64 ((rd_T63 Aa (ji18)).f1))) (fun w' h_ => ⟨h_.1, h_.2.1, h_.2.2.1, h_.2.2.2.1, h_.2.2.2.2.1, h_.2.2.2.2.2.1, h_.2.2.2.2.2.2.1, h_.2.2.2.2.2.2.2.1, h_.2.2.2.2.2.2.2.2.1, h_.2.2.2.2.2.2.2.2.2.1⟩) ⟨hHeld.1, hHeld.2.1, hHeld.2.2.1, hHeld.2.2.2.1, hHeld.2.2.2.2.1, hHeld.2.2.2.2.2.1, hHeld.2.2.2.2.2.2.1, hHeld.2.2.2.2.2.2.2.1, hHeld.2.2.2.2.2.2.2.2.1, hHeld.2.2.2.2.2.2.2.2.2, (by first | assumption | exact ((HB.out.cell (World.block_lt_of_cell? w _ hw274_0)).trans hw274_0)), (by first | assumption | exact ((HB.out.cell (World.block_lt_of_cell? w _ hw274_1)).trans hw274_1))⟩ (fun hHeld => ?_)
            refine pq_ 21 34 (bL 33 4194303) HT_.out rfl rfl ?_
            refine pq_ 23 36 (bL 33 12582911) HT_.out rfl rfl ?_
            refine pq_ 24 37 (bL 33 29360127) HT_.out rfl rfl ?_
            refine pq_ 28 41 (bL 33 297795583) HT_.out rfl rfl ?_
            refine take_ (i := 22) (N := some 35) (v := ?_) (a' := ?_) (bL 33 301989887) rfl rfl (take_ofW HT_.out HW_.out (by kernel_rfl)) (fun _ _ _ h => h) (Or.inl ⟨by rfl, ?_⟩) hHeld ?_ ?_; rotate_left; (rintro w' ⟨s0, s1, s2, s3, s4, s5, s6, s7, s8, s9, s10, s11⟩; go_simp; with_reducible rfl); rotate_left; (exact put_q)
            refine pq_ 25 38 (bL 33 335544319) HT_.out rfl rfl ?_
            refine pq_ 26 39 (bL 33 402653183) HT_.out rfl rfl ?_
            refine take_ (i := 27) (N := some 40) (v := ?_) (a' := ?_) (bL 33 536870911) rfl rfl (take_ofW HT_.out HW_.out (by kernel_rfl)) (fun _ _ _ h => h) (Or.inl ⟨by rfl, ?_⟩) hHeld ?_ ?_; rotate_left; (rintro w' ⟨s0, s1, s2, s3, s4, s5, s6, s7, s8, s9, s10, s11⟩; go_simp; with_reducible rfl); rotate_left; (exact put_q)
            refine take_ (i := 29) (N := some 42) (v := ?_) (a' := ?_) (bL 33 1073741823) rfl rfl (take_ofW HT_.out HW_.out (by kernel_rfl)) (fun _ _ _ h => h) (Or.inl ⟨by rfl, ?_⟩) hHeld ?_ ?_; rotate_left; (rintro w' ⟨s0, s1, s2, s3, s4, s5, s6, s7, s8, s9, s10, s11⟩; go_simp; with_reducible rfl); rotate_left; (exact put_q)
            refine pq_ 30 43 (bL 33 2147483647) HT_.out rfl rfl ?_
            refine pq_ 31 44 (bL 33 4294967295) HT_.out rfl rfl ?_
            refine pq_ 32 45 (bL 33 8589934591) HT_.out rfl rfl ?_
            have H := HZ8.out; clear HZ8
            by_cases c21 : ((rd_T63 Aa (ji18)).f0) ≥ ((rd_T63 Aa Ab).f0)
            ·rw [if_pos c21] at H
             have Ar : decide (((rd_T63 Aa Ab).f0) ≤ ((rd_T63 Aa (ji18)).f0)) = true := decide_eq_true c21
             (first | rw [Ar] | (simp only [i64_w, i32_w]; first | rw [Ar]) | skip)
             clear c21; obtain rfl := Option.some.inj H
             refine done_ (done_of HT_.out (by kernel_rfl)) ?_
             try go_wp2
             go_ret
             exact ⟨by first | rfl | (simp [errW_none, errW_some] <;> rfl) | (simp only [← hji18]; first | rfl | (simp [errW_none, errW_some] <;> rfl)) | (simp [*, errW_none, errW_some] <;> rfl), bw_q HB⟩
            ·rw [if_neg c21] at H
             have Ar : decide (((rd_T63 Aa Ab).f0) ≤ ((rd_T63 Aa (ji18)).f0)) = false := decide_eq_false c21
             (first | rw [Ar] | (simp only [i64_w, i32_w]; first | rw [Ar]) | skip)
             clear c21; have H' := ak H; clear H
             refine done_ (done_of HT_.out (by kernel_rfl)) ?_
             try go_wp2
             go_roundg k1
             case measure => have := Bb.out; omega
             case rel => exact ⟨(wrap64 (Ab + 1)), rs_q, H', ⟨by have := Bb.out; omega⟩, ⟨bk_q Ac⟩, ⟨bw_q HB⟩⟩
           ·rw [if_neg c20] at H
            exact absurd H (by simp)
          ·rw [if_neg c19] at H
           exact absurd H (by simp)
         ·rw [if_neg c17] at H
          have Aq : decide (0 < Ab) = false := decide_eq_false c17
          (first | rw [Aq] | (simp only [i64_w, i32_w]; first | rw [Aq]) | skip)
          clear c17; have H' := ak H; clear H
          refine pu_ 21 34 (bL 33 4194303) HT_.out rfl rfl ?_
          refine pu_ 22 35 (bL 33 8388607) HT_.out rfl rfl ?_
          refine pu_ 23 36 (bL 33 16777215) HT_.out rfl rfl ?_
          refine pu_ 24 37 (bL 33 33554431) HT_.out rfl rfl ?_
          refine pu_ 25 38 (bL 33 67108863) HT_.out rfl rfl ?_
          refine pu_ 26 39 (bL 33 134217727) HT_.out rfl rfl ?_
          refine pu_ 27 40 (bL 33 268435455) HT_.out rfl rfl ?_
          refine pu_ 28 41 (bL 33 536870911) HT_.out rfl rfl ?_
          refine pu_ 29 42 (bL 33 1073741823) HT_.out rfl rfl ?_
          refine pu_ 30 43 (bL 33 2147483647) HT_.out rfl rfl ?_
          refine pq_ 31 44 (bL 33 4294967295) HT_.out rfl rfl ?_
          refine pq_ 32 45 (bL 33 8589934591) HT_.out rfl rfl ?_
          refine done_ (done_of HT_.out (by kernel_rfl)) ?_
          try go_wp2
          go_roundg k1
          case measure => have := Bb.out; omega
          case rel => exact ⟨(wrap64 (Ab + 1)), rs_q, H', ⟨by have := Bb.out; omega⟩, ⟨bk_q Ac⟩, ⟨bw_q HB⟩⟩
        ·replace c16 := Bool.eq_false_iff.mpr c16; subst c16
         rw [if_neg (show ¬ (false = true) by decide)] at H
         obtain rfl := Option.some.inj H
         refine pu_ 18 31 (bL 33 524287) HT_.out rfl rfl ?_
         refine pu_ 19 32 (bL 33 1048575) HT_.out rfl rfl ?_
         refine pu_ 20 33 (bL 33 2097151) HT_.out rfl rfl ?_
         refine pu_ 21 34 (bL 33 4194303) HT_.out rfl rfl ?_
         refine pu_ 22 35 (bL 33 8388607) HT_.out rfl rfl ?_
         refine pu_ 23 36 (bL 33 16777215) HT_.out rfl rfl ?_
         refine pu_ 24 37 (bL 33 33554431) HT_.out rfl rfl ?_
         refine pu_ 25 38 (bL 33 67108863) HT_.out rfl rfl ?_
         refine pu_ 26 39 (bL 33 134217727) HT_.out rfl rfl ?_
         refine pu_ 27 40 (bL 33 268435455) HT_.out rfl rfl ?_
         refine pu_ 28 41 (bL 33 536870911) HT_.out rfl rfl ?_
         refine pu_ 29 42 (bL 33 1073741823) HT_.out rfl rfl ?_
         refine pu_ 30 43 (bL 33 2147483647) HT_.out rfl rfl ?_
         refine pu_ 31 44 (bL 33 4294967295) HT_.out rfl rfl ?_
         refine pq_ 32 45 (bL 33 8589934591) HT_.out rfl rfl ?_
         refine done_ (done_of HT_.out (by kernel_rfl)) ?_
         try go_wp2
         go_ret
         exact ⟨er_q, bw_q HB⟩
      ·replace c8 := Bool.eq_false_iff.mpr c8; subst c8
       rw [if_neg (show ¬ (false = true) by decide)] at H
       obtain rfl := Option.some.inj H
       refine pu_ 5 18 (bL 33 63) HT_.out rfl rfl ?_
       refine pu_ 6 19 (bL 33 127) HT_.out rfl rfl ?_
       refine pu_ 7 20 (bL 33 255) HT_.out rfl rfl ?_
       refine pu_ 8 21 (bL 33 511) HT_.out rfl rfl ?_
       refine pu_ 9 22 (bL 33 1023) HT_.out rfl rfl ?_
       refine pq_ 10 23 (bL 33 2047) HT_.out rfl rfl ?_
       refine pq_ 11 24 (bL 33 4095) HT_.out rfl rfl ?_
       refine pu_ 12 25 (bL 33 8191) HT_.out rfl rfl ?_
       refine pu_ 13 26 (bL 33 16383) HT_.out rfl rfl ?_
       refine pu_ 14 27 (bL 33 32767) HT_.out rfl rfl ?_
       refine pu_ 15 28 (bL 33 65535) HT_.out rfl rfl ?_
       refine pq_ 16 29 (bL 33 131071) HT_.out rfl rfl ?_
       refine pq_ 17 30 (bL 33 262143) HT_.out rfl rfl ?_
       refine pu_ 18 31 (bL 33 524287) HT_.out rfl rfl ?_
       refine pu_ 19 32 (bL 33 1048575) HT_.out rfl rfl ?_
       refine pu_ 20 33 (bL 33 2097151) HT_.out rfl rfl ?_
       refine pu_ 21 34 (bL 33 4194303) HT_.out rfl rfl ?_
       refine pu_ 22 35 (bL 33 8388607) HT_.out rfl rfl ?_
       refine pu_ 23 36 (bL 33 16777215) HT_.out rfl rfl ?_
       refine pu_ 24 37 (bL 33 33554431) HT_.out rfl rfl ?_
       refine pu_ 25 38 (bL 33 67108863) HT_.out rfl rfl ?_
       refine pu_ 26 39 (bL 33 134217727) HT_.out rfl rfl ?_
       refine pu_ 27 40 (bL 33 268435455) HT_.out rfl rfl ?_
       refine pu_ 28 41 (bL 33 536870911) HT_.out rfl rfl ?_
       refine pu_ 29 42 (bL 33 1073741823) HT_.out rfl rfl ?_
       refine pu_ 30 43 (bL 33 2147483647) HT_.out rfl rfl ?_
       refine pu_ 31 44 (bL 33 4294967295) HT_.out rfl rfl ?_
       refine pq_ 32 45 (bL 33 8589934591) HT_.out rfl rfl ?_
       refine done_ (done_of HT_.out (by kernel_rfl)) ?_
       try go_wp2
       go_ret
       exact ⟨er_q, bw_q HB⟩
     ·rw [if_neg c6] at H
      exact absurd H (by simp)
    ·rw [if_neg c5] at H
     exact absurd H (by simp)
   ·rw [if_neg c4] at H
    have Bv : decide (Ab < (Aa.length : Int)) = false := decide_eq_false c4
    clear c4; obtain rfl := Option.some.inj H
    go_wp2
    go_ret
    exact ⟨er_q, bw_q HB⟩

/-! ### impl_RecordOk: function 27 -/
def impl_RecordOk.j0 : Nat → Bool → Int → Int → Int → Int → Int → List (S63) → Int → Bool → Option (Bool)
 | 0, _, _, _, _, _, _, _, _, _ => none
 | k + 1, s, b, c, h, d, i, e, a, g => if s = true then (some false) else (if c = 1 then ((impl_in.f b 0 2).bind fun j => (if j = true then (if d = 0 then ((impl_nearOk.f k b c h d i e a g).bind fun l => (if l = true then (if a = 0 then (some (!g)) else (some false)) else (some false))) else (some false)) else (some false))) else (if c = 2 then ((impl_in.f b 0 2).bind fun m => (if m = true then ((impl_in.f d 1 6).bind fun n => (if n = true then (if (e.length : Int) = 0 then ((impl_in.f a 0 60000).bind fun o => (if o = true then (some (!g)) else (some false))) else (some false)) else (some false))) else (some false))) else (if c = 3 then (if b = 9 then ((impl_in.f d 1 9).bind fun p => (if p = true then (if (e.length : Int) = 0 then ((impl_in.f a 1 1000).bind fun q => (if q = true then (some true) else (some (a == 60000)))) else (some false)) else (some false))) else (some false)) else (some false))))
def impl_RecordOk.f (k : Nat) (e : Int) (g : Int) (c : Int) (h : Int) (d : Int) (i : List (S63)) (j : Int) (l : Bool) : Option (Bool) := (impl_in.f c 1 6).bind fun a => (if a = true then ((impl_in.f d 1 100000).bind fun b => (impl_RecordOk.j0 k (!b) e g c h d i j l)) else (impl_RecordOk.j0 k true e g c h d i j l))
theorem impl_RecordOk.mono_l : ∀ k, (∀ y0 y1 y2 y3 y4 y5 y6 y7 y8, LeO (impl_RecordOk.j0 k y0 y1 y2 y3 y4 y5 y6 y7 y8) (impl_RecordOk.j0 (k + 1) y0 y1 y2 y3 y4 y5 y6 y7 y8))
 | 0 => fun _ _ _ _ _ _ _ _ _ r h => by simp [impl_RecordOk.j0] at h
 | k + 1 => by
  have ih0 := impl_RecordOk.mono_l k
  ·intro y0 y1 y2 y3 y4 y5 y6 y7 y8
   unfold impl_RecordOk.j0
   with_reducible repeat' (first | apply ih0 | apply impl_nearOk.mono | exact LeO.refl _ | exact LeO.none _ | refine LeO.ite ?_ ?_ | refine LeO.bind ?_ (fun _ => ?_))
theorem impl_RecordOk.mono : ∀ a0 a1 a2 a3 a4 a5 a6 a7 k, LeO (impl_RecordOk.f k a0 a1 a2 a3 a4 a5 a6 a7) (impl_RecordOk.f (k + 1) a0 a1 a2 a3 a4 a5 a6 a7) := by
 intro a0 a1 a2 a3 a4 a5 a6 a7 k
 have ih0 := impl_RecordOk.mono_l k
 unfold impl_RecordOk.f
 with_reducible repeat' (first | apply ih0 | apply impl_nearOk.mono | exact LeO.refl _ | exact LeO.none _ | refine LeO.ite ?_ ?_ | refine LeO.bind ?_ (fun _ => ?_))
set_option maxHeartbeats 8000000 in
set_option maxRecDepth 100000 in
theorem impl_RecordOk.calls (k : Nat) (Ab : Int) (Ac : Int) (Ag : Int) (Ae : Int) (Ah : Int) (Al : Option Addr) (Am : Nat) (Ad : List (S63)) (Af : Int) (Ai : Bool) (r : Bool) (w : World) (hr0_5 : Kd.C k63 w Al Ad.length Ad) (hc0_5 : Ad.length ≤ Am) (h : impl_RecordOk.f k Ab Ac Ag Ae Ah Ad Af Ai = some r) :
  Calls Try.prog 27 #[.agg #[.int .i64 Ab, .int .i64 Ac, .int .i64 Ag, .int .i64 Ae, .int .i64 Ah, .slice Al Ad.length Am, .int .i64 Af, .bool Ai]] w fun e w' => e = .returned (.bool r) ∧ Below w.heap.size w w' := by
 have hu24 := Try.underlying24; have An := ak hr0_5; have Ao := ak hc0_5; clear hr0_5 hc0_5; have HB := ak (Below.refl w.heap.size w); have H := h
 clear h; unfold impl_RecordOk.f at H; have Ap := ak H; clear H
 go_enter Try.func27, Try.ntmps27
 go_upto_region 1 with (first | ((with_reducible refine gate_dst (N := 1) rfl ?_); (try (refine gate_guard (by rfl) ?_; dsimp only)); refine box_q 1 #[.int .i64 Ab, .int .i64 Ac, .int .i64 Ag, .int .i64 Ae, .int .i64 Ah, .slice Al Ad.length Am, .int .i64 Af, .bool Ai] 24 ?_; intro Aj hg w3 hbox hb; have Aa := ak (hbox); have Ny := gsz w (below_size (bw_q HB)) hg; have Nz := gsz w (below_size (bw_q HB)) hg; replace HB := ak (below_step (bw_q HB) hb); clear hb hbox hg))
 (try simp only [Act.put, List.setIfInBounds_toArray, List.set_cons_zero, List.set_cons_succ])
 go_cut [12] (fun v12 wc => ∃ (kq : Nat) (Ak : Bool), v12 = .bool Ak ∧ Aside0 (impl_RecordOk.j0 kq Ak Ab Ac Ag Ae Ah Ad Af Ai = some r) ∧ Aside0 (kq ≤ k) ∧ Aside0 (wc.heap[Aj]? = some (.cells #[.int .i64 Ab, .int .i64 Ac, .int .i64 Ag, .int .i64 Ae, .int .i64 Ah, (.slice Al Ad.length Am), .int .i64 Af, .bool Ai] 24 (0, 0))) ∧ Aside0 (Below w.heap.size w wc))
 case first =>
  have H := Ap.out; clear Ap; replace H := bsi H; obtain ⟨Cn, A40, H⟩ := H
  (try dsimp only at H)
  have A4 := ak A40; clear A40
  by_cases c5 : Cn = true
  ·subst c5; rw [if_pos rfl] at H; replace H := bsi H; obtain ⟨Aq, A60, H⟩ := H
   (try dsimp only at H)
   have A6 := ak A60; clear A60; have H' := ak H; clear H; obtain ⟨Ar, As, At, Au, Av, Aw, Ax, Ay, Az, Ba, Bb, Bc, Bd, Be, Bf, Bg⟩ := cf8_ Aa
   go_wp2_with (first | ((with_reducible refine gate_callee (f := 69) rfl ?_); refine goesL_ (some 5) rfl rfl Try.func69 (by kernel_rfl) rfl #[.int .i64 Ag, .int .i64 1, .int .i64 6] rfl mp_q ?_; (with_reducible refine (impl_in.calls Ag 1 6 true _ A4.out).mono ?_); rintro e w' ⟨rfl, ⟨nd, rfl⟩⟩; refine ⟨_, rfl, ?_⟩) | (go_at_call 69; (with_reducible refine (impl_in.calls Ah 1 100000 Aq _ A6.out).mono ?_); rintro e w' ⟨rfl, ⟨nd, rfl⟩⟩))
   go_meet
   case rel => exact ⟨_, (!Aq), rs_q, H', ⟨by first | omega | exact Nat.le_refl _⟩, ⟨bk_q Aa⟩, ⟨bw_q HB⟩⟩
  ·replace c5 := Bool.eq_false_iff.mpr c5; subst c5
   rw [if_neg (show ¬ (false = true) by decide)] at H
   have H' := ak H; clear H; obtain ⟨Bh, Bi, Bj, Bk, Bl, Bm, Bn, Bo, Bp, Bq, Br, Bs, Bt, Bu, Bv, Bw⟩ := cf8_ Aa
   go_wp2_with (first | ((with_reducible refine gate_callee (f := 69) rfl ?_); refine goesL_ (some 5) rfl rfl Try.func69 (by kernel_rfl) rfl #[.int .i64 Ag, .int .i64 1, .int .i64 6] rfl mp_q ?_; (with_reducible refine (impl_in.calls Ag 1 6 false _ A4.out).mono ?_); rintro e w' ⟨rfl, ⟨nd, rfl⟩⟩; refine ⟨_, rfl, ?_⟩))
   go_meet
   case rel => exact ⟨_, (true), rs_q, H', ⟨by first | omega | exact Nat.le_refl _⟩, ⟨bk_q Aa⟩, ⟨bw_q HB⟩⟩
 case rest =>
  clear Ap; (try clear c2); (try clear p2); (try clear c5); (try clear c6)
  try clear Ar As At Au Av Aw Ax Ay
  try clear Bh Bi Bj Bk Bl Bm Bn Bo
  try clear Az Ba Bb Bc Bd Be Bf Bg
  try clear Bp Bq Br Bs Bt Bu Bv Bw
  obtain ⟨kq, Ak, rfl, HA, HJ1, Aa, HB⟩ := hcut
  cases kq with
  | zero => exact absurd HA.out (by simp [impl_RecordOk.j0])
  | succ kj1 =>
   have H := HA.out; clear HA
   simp only [impl_RecordOk.j0] at H
   by_cases c9 : Ak = true
   ·subst c9; rw [if_pos rfl] at H; obtain rfl := Option.some.inj H
    go_wp2
    go_ret
    exact ⟨er_q, bw_q HB⟩
   ·replace c9 := Bool.eq_false_iff.mpr c9; subst c9
    rw [if_neg (show ¬ (false = true) by decide)] at H
    by_cases c10 : Ac = 1
    ·rw [if_pos c10] at H
     have Bx : (Ac == 1) = true := bqi c10
     have By : (Ac != 1) = false := bnf c10
     clear c10; replace H := bsi H; obtain ⟨Co, A110, H⟩ := H
     (try dsimp only at H)
     have A11 := ak A110; clear A110
     by_cases c12 : Co = true
     ·subst c12; rw [if_pos rfl] at H
      by_cases c13 : Ae = 0
      ·rw [if_pos c13] at H
       have Bz : (Ae == 0) = true := bqi c13
       have Ca : (Ae != 0) = false := bnf c13
       clear c13; replace H := bsi H; obtain ⟨Cp, A140, H⟩ := H
       (try dsimp only at H)
       have A14 := ak A140; clear A140
       by_cases c15 : Cp = true
       ·subst c15; rw [if_pos rfl] at H
        by_cases c16 : Af = 0
        ·rw [if_pos c16] at H
         have Cb : (Af == 0) = true := bqi c16
         have Cc : (Af != 0) = false := bnf c16
         clear c16; obtain rfl := Option.some.inj H; obtain ⟨Cv, Cw, Cx, Cy, Cz, Da, Db, Dc, Dd, De, Df, Dg, Dh, Di, Dj, Dk⟩ := cf8_ Aa
         go_wp2_with (first | ((with_reducible refine gate_callee (f := 69) rfl ?_); refine goesL_ (some 19) rfl rfl Try.func69 (by kernel_rfl) rfl #[.int .i64 Ab, .int .i64 0, .int .i64 2] rfl mp_q ?_; (with_reducible refine (impl_in.calls Ab 0 2 true _ A11.out).mono ?_); rintro e w' ⟨rfl, ⟨nd, rfl⟩⟩; refine ⟨_, rfl, ?_⟩) | (go_at_call 70; (with_reducible refine (impl_nearOk.calls kj1 Ab Ac Ag Ae Ah _ _ Ad Af Ai true _ ?side1 ?side2 A14.out).mono ?_); (case side1 => repeat (first | exact (Kd.C_below An.out (bw_q HB)) | (with_reducible refine Kd.C_alloc ?_ _) | (with_reducible refine Kd.C_drewN ?_ _) | (with_reducible refine Kd.C_drew ?_))); (case side2 => exact Ao.out); rintro e w18 ⟨rfl, hb⟩; replace Aa := ak (blk_below (g := Aj) (bk_q Aa) hb); replace HB := ak (below_step (bw_q HB) hb); obtain ⟨Dl, Dm, Dn, Do, Dp, Dq, Dr, Ds, Dt, Du, Dv, Dw, Dx, Dy, Dz, Ea⟩ := cf8_ Aa))
         go_ret
         exact ⟨er_q, bw_q HB⟩
        ·rw [if_neg c16] at H
         have Cb : (Af == 0) = false := bqf c16
         have Cc : (Af != 0) = true := bni c16
         obtain rfl := Option.some.inj H; obtain ⟨Eb, Ec, Ed, Ee, Ef, Eg, Eh, Ei, Ej, Ek, El, Em, En, Eo, Ep, Eq⟩ := cf8_ Aa
         go_wp2_with (first | ((with_reducible refine gate_callee (f := 69) rfl ?_); refine goesL_ (some 19) rfl rfl Try.func69 (by kernel_rfl) rfl #[.int .i64 Ab, .int .i64 0, .int .i64 2] rfl mp_q ?_; (with_reducible refine (impl_in.calls Ab 0 2 true _ A11.out).mono ?_); rintro e w' ⟨rfl, ⟨nd, rfl⟩⟩; refine ⟨_, rfl, ?_⟩) | (go_at_call 70; (with_reducible refine (impl_nearOk.calls kj1 Ab Ac Ag Ae Ah _ _ Ad Af Ai true _ ?side1 ?side2 A14.out).mono ?_); (case side1 => repeat (first | exact (Kd.C_below An.out (bw_q HB)) | (with_reducible refine Kd.C_alloc ?_ _) | (with_reducible refine Kd.C_drewN ?_ _) | (with_reducible refine Kd.C_drew ?_))); (case side2 => exact Ao.out); rintro e w21 ⟨rfl, hb⟩; replace Aa := ak (blk_below (g := Aj) (bk_q Aa) hb); replace HB := ak (below_step (bw_q HB) hb); obtain ⟨Er, Es, Et, Eu, Ev, Ew, Ex, Ey, Ez, Fa, Fb, Fc, Fd, Fe, Ff, Fg⟩ := cf8_ Aa))
         go_ret
         exact ⟨er_q, bw_q HB⟩
       ·replace c15 := Bool.eq_false_iff.mpr c15; subst c15
        rw [if_neg (show ¬ (false = true) by decide)] at H
        obtain rfl := Option.some.inj H; obtain ⟨Fh, Fi, Fj, Fk, Fl, Fm, Fn, Fo, Fp, Fq, Fr, Fs, Ft, Fu, Fv, Fw⟩ := cf8_ Aa
        go_wp2_with (first | ((with_reducible refine gate_callee (f := 69) rfl ?_); refine goesL_ (some 19) rfl rfl Try.func69 (by kernel_rfl) rfl #[.int .i64 Ab, .int .i64 0, .int .i64 2] rfl mp_q ?_; (with_reducible refine (impl_in.calls Ab 0 2 true _ A11.out).mono ?_); rintro e w' ⟨rfl, ⟨nd, rfl⟩⟩; refine ⟨_, rfl, ?_⟩) | (go_at_call 70; (with_reducible refine (impl_nearOk.calls kj1 Ab Ac Ag Ae Ah _ _ Ad Af Ai false _ ?side1 ?side2 A14.out).mono ?_); (case side1 => repeat (first | exact (Kd.C_below An.out (bw_q HB)) | (with_reducible refine Kd.C_alloc ?_ _) | (with_reducible refine Kd.C_drewN ?_ _) | (with_reducible refine Kd.C_drew ?_))); (case side2 => exact Ao.out); rintro e w24 ⟨rfl, hb⟩; replace Aa := ak (blk_below (g := Aj) (bk_q Aa) hb); replace HB := ak (below_step (bw_q HB) hb)))
        go_ret
        exact ⟨er_q, bw_q HB⟩
      ·rw [if_neg c13] at H
       have Bz : (Ae == 0) = false := bqf c13
       have Ca : (Ae != 0) = true := bni c13
       obtain rfl := Option.some.inj H; obtain ⟨Fx, Fy, Fz, Ga, Gb, Gc, Gd, Ge, Gf, Gg, Gh, Gi, Gj, Gk, Gl, Gm⟩ := cf8_ Aa
       go_wp2_with (first | ((with_reducible refine gate_callee (f := 69) rfl ?_); refine goesL_ (some 19) rfl rfl Try.func69 (by kernel_rfl) rfl #[.int .i64 Ab, .int .i64 0, .int .i64 2] rfl mp_q ?_; (with_reducible refine (impl_in.calls Ab 0 2 true _ A11.out).mono ?_); rintro e w' ⟨rfl, ⟨nd, rfl⟩⟩; refine ⟨_, rfl, ?_⟩))
       go_ret
       exact ⟨er_q, bw_q HB⟩
     ·replace c12 := Bool.eq_false_iff.mpr c12; subst c12
      rw [if_neg (show ¬ (false = true) by decide)] at H
      obtain rfl := Option.some.inj H; obtain ⟨Gn, Go, Gp, Gq, Gr, Gs, Gt, Gu, Gv, Gw, Gx, Gy, Gz, Ha, Hb, Hc⟩ := cf8_ Aa
      go_wp2_with (first | ((with_reducible refine gate_callee (f := 69) rfl ?_); refine goesL_ (some 19) rfl rfl Try.func69 (by kernel_rfl) rfl #[.int .i64 Ab, .int .i64 0, .int .i64 2] rfl mp_q ?_; (with_reducible refine (impl_in.calls Ab 0 2 false _ A11.out).mono ?_); rintro e w' ⟨rfl, ⟨nd, rfl⟩⟩; refine ⟨_, rfl, ?_⟩))
      go_ret
      exact ⟨er_q, bw_q HB⟩
    ·rw [if_neg c10] at H
     have Bx : (Ac == 1) = false := bqf c10
     have By : (Ac != 1) = true := bni c10
     by_cases c27 : Ac = 2
     ·rw [if_pos c27] at H
      have Cd : (Ac == 2) = true := bqi c27
      have Ce : (Ac != 2) = false := bnf c27
      clear c27; replace H := bsi H; obtain ⟨Cq, A280, H⟩ := H
      (try dsimp only at H)
      have A28 := ak A280; clear A280
      by_cases c29 : Cq = true
      ·subst c29; rw [if_pos rfl] at H; replace H := bsi H; obtain ⟨Cr, A300, H⟩ := H
       (try dsimp only at H)
       have A30 := ak A300; clear A300
       by_cases c31 : Cr = true
       ·subst c31; rw [if_pos rfl] at H
        by_cases c32 : (Ad.length : Int) = 0
        ·rw [if_pos c32] at H
         have Cf : ((Ad.length : Int) == 0) = true := bqi c32
         have Cg : ((Ad.length : Int) != 0) = false := bnf c32
         clear c32; replace H := bsi H; obtain ⟨Cs, A330, H⟩ := H
         (try dsimp only at H)
         have A33 := ak A330; clear A330
         by_cases c34 : Cs = true
         ·subst c34; rw [if_pos rfl] at H; obtain rfl := Option.some.inj H; obtain ⟨Hd, He, Hf, Hg, Hh, Hi, Hj, Hk, Hl, Hm, Hn, Ho, Hp, Hq, Hr, Hs⟩ := cf8_ Aa
          go_wp2_with (first | ((with_reducible refine gate_callee (f := 69) rfl ?_); refine goesL_ (some 43) rfl rfl Try.func69 (by kernel_rfl) rfl #[.int .i64 Ab, .int .i64 0, .int .i64 2] rfl mp_q ?_; (with_reducible refine (impl_in.calls Ab 0 2 true _ A28.out).mono ?_); rintro e w' ⟨rfl, ⟨nd, rfl⟩⟩; refine ⟨_, rfl, ?_⟩) | (go_at_call 69; (with_reducible refine (impl_in.calls Ae 1 6 true _ A30.out).mono ?_); rintro e w' ⟨rfl, ⟨nd, rfl⟩⟩) | (go_at_call 69; (with_reducible refine (impl_in.calls Af 0 60000 true _ A33.out).mono ?_); rintro e w' ⟨rfl, ⟨nd, rfl⟩⟩))
          go_ret
          exact ⟨er_q, bw_q HB⟩
         ·replace c34 := Bool.eq_false_iff.mpr c34; subst c34
          rw [if_neg (show ¬ (false = true) by decide)] at H
          obtain rfl := Option.some.inj H; obtain ⟨Ht, Hu, Hv, Hw, Hx, Hy, Hz, Ia, Ib, Ic, Id, Ie, If, Ig, Ih, Ii⟩ := cf8_ Aa
          go_wp2_with (first | ((with_reducible refine gate_callee (f := 69) rfl ?_); refine goesL_ (some 43) rfl rfl Try.func69 (by kernel_rfl) rfl #[.int .i64 Ab, .int .i64 0, .int .i64 2] rfl mp_q ?_; (with_reducible refine (impl_in.calls Ab 0 2 true _ A28.out).mono ?_); rintro e w' ⟨rfl, ⟨nd, rfl⟩⟩; refine ⟨_, rfl, ?_⟩) | (go_at_call 69; (with_reducible refine (impl_in.calls Ae 1 6 true _ A30.out).mono ?_); rintro e w' ⟨rfl, ⟨nd, rfl⟩⟩) | (go_at_call 69; (with_reducible refine (impl_in.calls Af 0 60000 false _ A33.out).mono ?_); rintro e w' ⟨rfl, ⟨nd, rfl⟩⟩))
          go_ret
          exact ⟨er_q, bw_q HB⟩
        ·rw [if_neg c32] at H
         have Cf : ((Ad.length : Int) == 0) = false := bqf c32
         have Cg : ((Ad.length : Int) != 0) = true := bni c32
         have Oa : ¬ (Ad = []) := fun h_ => c32 (by rw [h_]; rfl)
         obtain rfl := Option.some.inj H; obtain ⟨Ij, Ik, Il, Im, In, Io, Ip, Iq, Ir, Is, It, Iu, Iv, Iw, Ix, Iy⟩ := cf8_ Aa
         go_wp2_with (first | ((with_reducible refine gate_callee (f := 69) rfl ?_); refine goesL_ (some 43) rfl rfl Try.func69 (by kernel_rfl) rfl #[.int .i64 Ab, .int .i64 0, .int .i64 2] rfl mp_q ?_; (with_reducible refine (impl_in.calls Ab 0 2 true _ A28.out).mono ?_); rintro e w' ⟨rfl, ⟨nd, rfl⟩⟩; refine ⟨_, rfl, ?_⟩) | (go_at_call 69; (with_reducible refine (impl_in.calls Ae 1 6 true _ A30.out).mono ?_); rintro e w' ⟨rfl, ⟨nd, rfl⟩⟩))
         go_ret
         exact ⟨er_q, bw_q HB⟩
       ·replace c31 := Bool.eq_false_iff.mpr c31; subst c31
        rw [if_neg (show ¬ (false = true) by decide)] at H
        obtain rfl := Option.some.inj H; obtain ⟨Iz, Ja, Jb, Jc, Jd, Je, Jf, Jg, Jh, Ji, Jj, Jk, Jl, Jm, Jn, Jo⟩ := cf8_ Aa
        go_wp2_with (first | ((with_reducible refine gate_callee (f := 69) rfl ?_); refine goesL_ (some 43) rfl rfl Try.func69 (by kernel_rfl) rfl #[.int .i64 Ab, .int .i64 0, .int .i64 2] rfl mp_q ?_; (with_reducible refine (impl_in.calls Ab 0 2 true _ A28.out).mono ?_); rintro e w' ⟨rfl, ⟨nd, rfl⟩⟩; refine ⟨_, rfl, ?_⟩) | (go_at_call 69; (with_reducible refine (impl_in.calls Ae 1 6 false _ A30.out).mono ?_); rintro e w' ⟨rfl, ⟨nd, rfl⟩⟩))
        go_ret
        exact ⟨er_q, bw_q HB⟩
      ·replace c29 := Bool.eq_false_iff.mpr c29; subst c29
       rw [if_neg (show ¬ (false = true) by decide)] at H
       obtain rfl := Option.some.inj H; obtain ⟨Jp, Jq, Jr, Js, Jt, Ju, Jv, Jw, Jx, Jy, Jz, Ka, Kb, Kc, Ke, Kf⟩ := cf8_ Aa
       go_wp2_with (first | ((with_reducible refine gate_callee (f := 69) rfl ?_); refine goesL_ (some 43) rfl rfl Try.func69 (by kernel_rfl) rfl #[.int .i64 Ab, .int .i64 0, .int .i64 2] rfl mp_q ?_; (with_reducible refine (impl_in.calls Ab 0 2 false _ A28.out).mono ?_); rintro e w' ⟨rfl, ⟨nd, rfl⟩⟩; refine ⟨_, rfl, ?_⟩))
       go_ret
       exact ⟨er_q, bw_q HB⟩
     ·rw [if_neg c27] at H
      have Cd : (Ac == 2) = false := bqf c27
      have Ce : (Ac != 2) = true := bni c27
      by_cases c40 : Ac = 3
      ·rw [if_pos c40] at H
       have Ch : (Ac == 3) = true := bqi c40
       have Ci : (Ac != 3) = false := bnf c40
       clear c40
       by_cases c41 : Ab = 9
       ·rw [if_pos c41] at H
        have Cj : (Ab == 9) = true := bqi c41
        have Ck : (Ab != 9) = false := bnf c41
        clear c41; replace H := bsi H; obtain ⟨Ct, A420, H⟩ := H
        (try dsimp only at H)
        have A42 := ak A420; clear A420
        by_cases c43 : Ct = true
        ·subst c43; rw [if_pos rfl] at H
         by_cases c44 : (Ad.length : Int) = 0
         ·rw [if_pos c44] at H
          have Cl : ((Ad.length : Int) == 0) = true := bqi c44
          have Cm : ((Ad.length : Int) != 0) = false := bnf c44
          clear c44; replace H := bsi H; obtain ⟨Cu, A450, H⟩ := H
          (try dsimp only at H)
          have A45 := ak A450; clear A450
          by_cases c46 : Cu = true
          ·subst c46; rw [if_pos rfl] at H; obtain rfl := Option.some.inj H; obtain ⟨Kg, Kh, Ki, Kj, Kk, Kl, Km, Kn, Ko, Kp, Kq, Kr, Ks, Kt, Ku, Kv⟩ := cf8_ Aa
           go_wp2_with (first | (go_at_call 69; (with_reducible refine (impl_in.calls Ae 1 9 true _ A42.out).mono ?_); rintro e w' ⟨rfl, ⟨nd, rfl⟩⟩) | (go_at_call 69; (with_reducible refine (impl_in.calls Af 1 1000 true _ A45.out).mono ?_); rintro e w' ⟨rfl, ⟨nd, rfl⟩⟩))
           go_ret
           exact ⟨er_q, bw_q HB⟩
          ·replace c46 := Bool.eq_false_iff.mpr c46; subst c46
           rw [if_neg (show ¬ (false = true) by decide)] at H
           obtain rfl := Option.some.inj H; obtain ⟨Kw, Kx, Ky, Kz, La, Lb, Lc, Ld, Le, Lf, Lg, Lh, Li, Lj, Lk, Ll⟩ := cf8_ Aa
           go_wp2_with (first | (go_at_call 69; (with_reducible refine (impl_in.calls Ae 1 9 true _ A42.out).mono ?_); rintro e w' ⟨rfl, ⟨nd, rfl⟩⟩) | (go_at_call 69; (with_reducible refine (impl_in.calls Af 1 1000 false _ A45.out).mono ?_); rintro e w' ⟨rfl, ⟨nd, rfl⟩⟩))
           go_ret
           exact ⟨er_q, bw_q HB⟩
         ·rw [if_neg c44] at H
          have Cl : ((Ad.length : Int) == 0) = false := bqf c44
          have Cm : ((Ad.length : Int) != 0) = true := bni c44
          have Ob : ¬ (Ad = []) := fun h_ => c44 (by rw [h_]; rfl)
          obtain rfl := Option.some.inj H; obtain ⟨Lm, Ln, Lo, Lp, Lq, Lr, Ls, Lt, Lu, Lv, Lw, Lx, Ly, Lz, Ma, Mb⟩ := cf8_ Aa
          go_wp2_with (first | (go_at_call 69; (with_reducible refine (impl_in.calls Ae 1 9 true _ A42.out).mono ?_); rintro e w' ⟨rfl, ⟨nd, rfl⟩⟩))
          go_ret
          exact ⟨er_q, bw_q HB⟩
        ·replace c43 := Bool.eq_false_iff.mpr c43; subst c43
         rw [if_neg (show ¬ (false = true) by decide)] at H
         obtain rfl := Option.some.inj H; obtain ⟨Mc, Md, Me, Mf, Mg, Mh, Mi, Mj, Mk, Ml, Mm, Mn, Mo, Mp, Mq, Mr⟩ := cf8_ Aa
         go_wp2_with (first | (go_at_call 69; (with_reducible refine (impl_in.calls Ae 1 9 false _ A42.out).mono ?_); rintro e w' ⟨rfl, ⟨nd, rfl⟩⟩))
         go_ret
         exact ⟨er_q, bw_q HB⟩
       ·rw [if_neg c41] at H
        have Cj : (Ab == 9) = false := bqf c41
        have Ck : (Ab != 9) = true := bni c41
        obtain rfl := Option.some.inj H; obtain ⟨Ms, Mt, Mu, Mv, Mw, Mx, My, Mz, Na, Nb, Nc, Nd, Ne, Nf, Ng, Nh⟩ := cf8_ Aa
        go_wp2
        go_ret
        exact ⟨er_q, bw_q HB⟩
      ·rw [if_neg c40] at H
       have Ch : (Ac == 3) = false := bqf c40
       have Ci : (Ac != 3) = true := bni c40
       obtain rfl := Option.some.inj H; obtain ⟨Ni, Nj, Nk, Nl, Nm, Nn, No, Np, Nq, Nr, Ns, Nt, Nu, Nv, Nw, Nx⟩ := cf8_ Aa
       go_wp2
       go_ret
       exact ⟨er_q, bw_q HB⟩

/-! ### impl_Before: function 94 -/
def impl_Before.f (a : Int) (b : Int) (c : Int) (h : Int) (j : Int) (l : List (S63)) (m : Int) (n : Bool) (d : Int) (e : Int) (g : Int) (i : Int) (o : Int) (p : List (S63)) (q : Int) (s : Bool) : Option (Bool) := if a = d then (if b = e then (if c = g then (some (decide (h < i))) else (some (decide (c < g)))) else (some (decide (b < e)))) else (some (decide (a < d)))
set_option maxHeartbeats 8000000 in
set_option maxRecDepth 100000 in
theorem impl_Before.calls (Ad : Int) (Ae : Int) (Af : Int) (An : Int) (Ao : Int) (Ap : Option Addr) (Aq : Nat) (Ag : List (S63)) (Ar : Int) (As : Bool) (Ah : Int) (Ai : Int) (Aj : Int) (Av : Int) (Aw : Int) (Ax : Option Addr) (Ay : Nat) (Am : List (S63)) (Az : Int) (Ba : Bool) (r : Bool) (w : World) (hr0_5 : Kd.C k63 w Ap Ag.length Ag) (hc0_5 : Ag.length ≤ Aq) (hr1_5 : Kd.C k63 w Ax Am.length Am) (hc1_5 : Am.length ≤ Ay) (h : impl_Before.f Ad Ae Af An Ao Ag Ar As Ah Ai Aj Av Aw Am Az Ba = some r) :
  Calls Try.prog 94 #[.agg #[.int .i64 Ad, .int .i64 Ae, .int .i64 Af, .int .i64 An, .int .i64 Ao, .slice Ap Ag.length Aq, .int .i64 Ar, .bool As], .agg #[.int .i64 Ah, .int .i64 Ai, .int .i64 Aj, .int .i64 Av, .int .i64 Aw, .slice Ax Am.length Ay, .int .i64 Az, .bool Ba]] w fun e w' => e = .returned (.bool r) ∧ Below w.heap.size w w' := by
 have hu24 := Try.underlying24; have Hl := ak hr0_5; have Hm := ak hc0_5; clear hr0_5 hc0_5; have Hn := ak hr1_5; have Ho := ak hc1_5; clear hr1_5 hc1_5; have HB := ak (Below.refl w.heap.size w); have H := h
 clear h; unfold impl_Before.f at H; have Bg := ak H; clear H
 go_enter Try.func94, Try.ntmps94
 go_upto_if 5 with (first | ((with_reducible refine gate_dst (N := 2) rfl ?_); refine box_q 2 #[.int .i64 Ad, .int .i64 Ae, .int .i64 Af, .int .i64 An, .int .i64 Ao, .slice Ap Ag.length Aq, .int .i64 Ar, .bool As] 24 ?_; intro Ak hg w4 hbox hb; have Ac := ak (hbox); have Hp := gsz w (below_size (bw_q HB)) hg; have Hq := gsz w (below_size (bw_q HB)) hg; replace HB := ak (below_step (bw_q HB) hb); clear hb hbox hg) | ((with_reducible refine gate_dst (N := 3) rfl ?_); refine box_q 3 #[.int .i64 Ah, .int .i64 Ai, .int .i64 Aj, .int .i64 Av, .int .i64 Aw, .slice Ax Am.length Ay, .int .i64 Az, .bool Ba] 24 ?_; intro Bb hg w5 hbox hb; have Al := ak (hbox); have Hr := gsz w (below_size (bw_q HB)) hg; have Hs := gsz w (below_size (bw_q HB)) hg; replace HB := ak (below_step (bw_q HB) hb); have Aa := ak ((by rw [hg]; exact Nat.ne_of_lt (blk_lt (g := Ak) (o := .cells #[.int .i64 Ad, .int .i64 Ae, .int .i64 Af, .int .i64 An, .int .i64 Ao, .slice Ap Ag.length Aq, .int .i64 Ar, .bool As] 24 (0, 0)) (bk_q Ac)) : Ak ≠ Bb)); have Ab := ak ((by rw [hg]; exact Nat.ne_of_gt (blk_lt (g := Ak) (o := .cells #[.int .i64 Ad, .int .i64 Ae, .int .i64 Af, .int .i64 An, .int .i64 Ao, .slice Ap Ag.length Aq, .int .i64 Ar, .bool As] 24 (0, 0)) (bk_q Ac)) : Bb ≠ Ak)); replace Ac := ak (blk_below (g := Ak) (bk_q Ac) hb); clear hb hbox hg; have Ib := Aa.out; have Ic := Ab.out; obtain ⟨Gf, Gg, Gh, Gi, Gj, Gk, Gl, Gm, Gn, Go, Gp, Gq, Gr, Gs, Gt, Gu⟩ := cf8_ Ac; obtain ⟨Gv, Gw, Gx, Gy, Gz, Ha, Hb, Hc, Hd, He, Hf, Hg, Hh, Hi, Hj, Hk⟩ := cf8_ Al))
 have H := Bg.out; clear Bg
 by_cases c9 : Ad = Ah
 ·rw [if_pos c9] at H
  have At : (Ad == Ah) = true := bqi c9
  have Au : (Ad != Ah) = false := bnf c9
  clear c9
  (first | rw [At] | rw [Au] | (simp only [i64_w, i32_w]; first | rw [At] | rw [Au]) | skip)
  by_cases c10 : Ae = Ai
  ·rw [if_pos c10] at H
   have Bc : (Ae == Ai) = true := bqi c10
   have Bd : (Ae != Ai) = false := bnf c10
   clear c10
   by_cases c11 : Af = Aj
   ·rw [if_pos c11] at H
    have Be : (Af == Aj) = true := bqi c11
    have Bf : (Af != Aj) = false := bnf c11
    clear c11; obtain rfl := Option.some.inj H; have Ht := Aa.out; have Hu := Ab.out; obtain ⟨Bh, Bi, Bj, Bk, Bl, Bm, Bn, Bo, Bp, Bq, Br, Bs, Bt, Bu, Bv, Bw⟩ := cf8_ Ac; obtain ⟨Bx, By, Bz, Ca, Cb, Cc, Cd, Ce, Cf, Cg, Ch, Ci, Cj, Ck, Cl, Cm⟩ := cf8_ Al
    go_wp2
    go_ret
    exact ⟨er_q, bw_q HB⟩
   ·rw [if_neg c11] at H
    have Be : (Af == Aj) = false := bqf c11
    have Bf : (Af != Aj) = true := bni c11
    obtain rfl := Option.some.inj H; have Hv := Aa.out; have Hw := Ab.out; obtain ⟨Cn, Co, Cp, Cq, Cr, Cs, Ct, Cu, Cv, Cw, Cx, Cy, Cz, Da, Db, Dc⟩ := cf8_ Ac; obtain ⟨Dd, De, Df, Dg, Dh, Di, Dj, Dk, Dl, Dm, Dn, Do, Dp, Dq, Dr, Ds⟩ := cf8_ Al
    go_wp2
    go_ret
    exact ⟨er_q, bw_q HB⟩
  ·rw [if_neg c10] at H
   have Bc : (Ae == Ai) = false := bqf c10
   have Bd : (Ae != Ai) = true := bni c10
   obtain rfl := Option.some.inj H; have Hx := Aa.out; have Hy := Ab.out; obtain ⟨Dt, Du, Dv, Dw, Dx, Dy, Dz, Ea, Eb, Ec, Ed, Ee, Ef, Eg, Eh, Ei⟩ := cf8_ Ac; obtain ⟨Ej, Ek, El, Em, En, Eo, Ep, Eq, Er, Es, Et, Eu, Ev, Ew, Ex, Ey⟩ := cf8_ Al
   go_wp2
   go_ret
   exact ⟨er_q, bw_q HB⟩
 ·rw [if_neg c9] at H
  have At : (Ad == Ah) = false := bqf c9
  have Au : (Ad != Ah) = true := bni c9
  (first | rw [At] | rw [Au] | (simp only [i64_w, i32_w]; first | rw [At] | rw [Au]) | skip)
  obtain rfl := Option.some.inj H; have Hz := Aa.out; have Ia := Ab.out; obtain ⟨Ez, Fa, Fb, Fc, Fd, Fe, Ff, Fg, Fh, Fi, Fj, Fk, Fl, Fm, Fn, Fo⟩ := cf8_ Ac; obtain ⟨Fp, Fq, Fr, Fs, Ft, Fu, Fv, Fw, Fx, Fy, Fz, Ga, Gb, Gc, Gd, Ge⟩ := cf8_ Al
  go_wp2
  go_ret
  exact ⟨er_q, bw_q HB⟩

/-! ### impl_StoreOk: function 77 -/
def impl_StoreOk.l0 : Nat → List (S24) → List (S24) → Int → Int → Option (Bool)
 | 0, _, _, _, _ => none
 | k + 1, c, b, d, a => if a < d then (if 0 ≤ a then (if a < (b.length : Int) then ((impl_RecordOk.f k ((rd_T24 b a).f0) ((rd_T24 b a).f1) ((rd_T24 b a).f2) ((rd_T24 b a).f3) ((rd_T24 b a).f4) ((rd_T24 b a).f5) ((rd_T24 b a).f6) ((rd_T24 b a).f7)).bind fun e => (if e = true then (if a > 0 then (if 0 ≤ (wrap64 (a - 1)) then (if (wrap64 (a - 1)) < (c.length : Int) then ((impl_Before.f ((rd_T24 c (wrap64 (a - 1))).f0) ((rd_T24 c (wrap64 (a - 1))).f1) ((rd_T24 c (wrap64 (a - 1))).f2) ((rd_T24 c (wrap64 (a - 1))).f3) ((rd_T24 c (wrap64 (a - 1))).f4) ((rd_T24 c (wrap64 (a - 1))).f5) ((rd_T24 c (wrap64 (a - 1))).f6) ((rd_T24 c (wrap64 (a - 1))).f7) ((rd_T24 b a).f0) ((rd_T24 b a).f1) ((rd_T24 b a).f2) ((rd_T24 b a).f3) ((rd_T24 b a).f4) ((rd_T24 b a).f5) ((rd_T24 b a).f6) ((rd_T24 b a).f7)).bind fun g => (if g = true then (impl_StoreOk.l0 k c b d (wrap64 (a + 1))) else (some false))) else (none)) else (none)) else (impl_StoreOk.l0 k c b d (wrap64 (a + 1)))) else (some false))) else (none)) else (none)) else (some (decide ((c.length : Int) ≤ 150)))
def impl_StoreOk.f (k : Nat) (l0 : List (S24)) : Option (Bool) := impl_StoreOk.l0 k l0 l0 (l0.length : Int) 0
theorem impl_StoreOk.mono_l : ∀ k, (∀ y0 y1 y2 y3, LeO (impl_StoreOk.l0 k y0 y1 y2 y3) (impl_StoreOk.l0 (k + 1) y0 y1 y2 y3))
 | 0 => fun _ _ _ _ r h => by simp [impl_StoreOk.l0] at h
 | k + 1 => by
  have ih0 := impl_StoreOk.mono_l k
  ·intro y0 y1 y2 y3
   unfold impl_StoreOk.l0
   with_reducible repeat' (first | apply ih0 | apply impl_RecordOk.mono | exact LeO.refl _ | exact LeO.none _ | refine LeO.ite ?_ ?_ | refine LeO.bind ?_ (fun _ => ?_))
theorem impl_StoreOk.mono : ∀ a0 k, LeO (impl_StoreOk.f k a0) (impl_StoreOk.f (k + 1) a0) := by
 intro a0 k
 have ih0 := impl_StoreOk.mono_l k
 unfold impl_StoreOk.f
 with_reducible repeat' (first | apply ih0 | apply impl_RecordOk.mono | exact LeO.refl _ | exact LeO.none _ | refine LeO.ite ?_ ?_ | refine LeO.bind ?_ (fun _ => ?_))
def impl_StoreOk.T4 : Bool × List (List Nat × List Nat) := (true, [([], []), ([0], [0]), ([1], [1]), ([2, 1], [2]), ([3], [3]), ([4, 3], [3, 4]), ([5, 3, 3], [3, 5]), ([6], [6]), ([6], [6]), ([8, 6], [6, 8]), ([7, 9, 6], [6, 7, 9]), ([10, 6], [6, 10]), ([6], [6]), ([11, 12, 6, 6], [6, 11, 12]), ([13, 6], [6, 13]), ([6, 14, 3], [3, 6, 14]), ([3, 15], [3, 15])])
def impl_StoreOk.B4 : List Nat := [0, 1, 3, 7, 15, 31, 63, 127, 127, 383, 1023, 2047, 127, 8191, 16383, 32767, 65535]
theorem impl_StoreOk.tab4 : rtab .any (opsOf Try.f77 4) = impl_StoreOk.T4 := by kernel_rfl
theorem impl_StoreOk.bits4 : waitsOk impl_StoreOk.T4.2 impl_StoreOk.B4 = true := by kernel_rfl
set_option maxHeartbeats 8000000 in
set_option maxRecDepth 100000 in
theorem impl_StoreOk.calls (k : Nat) (A0 : Option Addr) (c0 : Nat) (l0 : List (S24)) (r : Bool) (w : World) (hr0 : Kd.C k24 w A0 l0.length l0) (hc0 : l0.length ≤ c0) (h : impl_StoreOk.f k l0 = some r) :
  Calls Try.prog 77 #[.slice A0 l0.length c0] w fun e w' => e = .returned (.bool r) ∧ Below w.heap.size w w' := by
 have hu24 := Try.underlying24; have HR0 := ak hr0; have Ca := ak hc0; clear hr0 hc0; have HB := ak (Below.refl w.heap.size w); have H := h
 clear h; unfold impl_StoreOk.f at H; have H' := ak H; clear H
 go_enter Try.func77, Try.ntmps77
 go_wp2
 go_loopg [7] k (fun kq v7 w' => ∃ (Aa : Int), v7 = .int .i64 Aa ∧ Aside0 (impl_StoreOk.l0 kq l0 l0 (l0.length : Int) Aa = some r) ∧ Aside0 (kq ≤ k) ∧ Aside0 (Below w.heap.size w w'))
 case atStart => exact ⟨(0), rs_q, H', ⟨Nat.le_refl _⟩, ⟨bw_q HB⟩⟩
 case round =>
  clear H'; obtain ⟨Aa, rfl, HA, Ay, HB⟩ := hrel
  cases gk with
  | zero => exact absurd HA.out (by simp [impl_StoreOk.l0])
  | succ k1 =>
   have H := HA.out; clear HA
   simp only [impl_StoreOk.l0] at H
   by_cases c2 : Aa < (l0.length : Int)
   ·rw [if_pos c2] at H
    have Bd : decide (Aa < (l0.length : Int)) = true := decide_eq_true c2
    clear c2
    by_cases c3 : 0 ≤ Aa
    ·rw [if_pos c3] at H
     have Bx : decide (0 ≤ Aa) = true := decide_eq_true c3
     clear c3
     by_cases c4 : Aa < (l0.length : Int)
     ·rw [if_pos c4] at H
      have By : decide (Aa < (l0.length : Int)) = true := decide_eq_true c4
      clear c4; replace H := bsi H; obtain ⟨Bb, A50, H⟩ := H
      (try dsimp only at H)
      have A5 := ak A50; clear A50; have HZ1 := ak H; clear H
      have p287 : 0 ≤ (Aa : Int) := of_decide_eq_true as_q
      have q287 : Aa < (l0.length : Int) := of_decide_eq_true as_q
      obtain ⟨Ad, A287_5, c287_5, e287, An, Ao, Ap, Aq, Ar, As, At, Au, hl287_5, hi287_5⟩ := at_T24 HR0.out Aa p287 q287
      cases e287
      replace An := hbc HB An; replace Ao := hbc HB Ao; replace Ap := hbc HB Ap; replace Aq := hbc HB Aq; replace Ar := hbc HB Ar; replace As := hbc HB As; replace At := hbc HB At; replace Au := hbc HB Au; have Av := ak hi287_5; have Aw := ak hl287_5; clear hi287_5 hl287_5; replace p287 := eq_true p287; replace q287 := eq_true q287
      try go_wp2_with (first | ((with_reducible refine gate_dst (N := 4) rfl ?_); refine box_q 4 #[.int .i64 0, .int .i64 0, .int .i64 0, .int .i64 0, .int .i64 0, .slice none 0 0, .int .i64 0, .bool false] 24 ?_; intro Ab hg w13 hbox hb; have Ac := ak (hbox); have Bu := gsz w (below_size (bw_q HB)) hg; have Bv := gsz w (below_size (bw_q HB)) hg; replace HB := ak (below_step (bw_q HB) hb); clear hb hbox hg; obtain ⟨Be, Bf, Bg, Bh, Bi, Bj, Bk, Bl, Bm, Bn, Bo, Bp, Bq, Br, Bs, Bt⟩ := cf8_ Ac))
      have n0_ : Aside0 (((((((((w13.setCell ⟨Ab, 0, none⟩ (.int .i64 ((rd_T24 l0 Aa).f0))).setCell ⟨Ab, 1, none⟩ (.int .i64 ((rd_T24 l0 Aa).f1))).setCell ⟨Ab, 2, none⟩ (.int .i64 ((rd_T24 l0 Aa).f2))).setCell ⟨Ab, 3, none⟩ (.int .i64 ((rd_T24 l0 Aa).f3))).setCell ⟨Ab, 4, none⟩ (.int .i64 ((rd_T24 l0 Aa).f4))).setCell ⟨Ab, 5, none⟩ (.slice A287_5 ((rd_T24 l0 Aa).f5).length c287_5)).setCell ⟨Ab, 6, none⟩ (.int .i64 ((rd_T24 l0 Aa).f6))).setCell ⟨Ab, 7, none⟩ (.bool ((rd_T24 l0 Aa).f7))).heap[Ab]? = some (.cells #[.int .i64 ((rd_T24 l0 Aa).f0), .int .i64 ((rd_T24 l0 Aa).f1), .int .i64 ((rd_T24 l0 Aa).f2), .int .i64 ((rd_T24 l0 Aa).f3), .int .i64 ((rd_T24 l0 Aa).f4), .slice A287_5 ((rd_T24 l0 Aa).f5).length c287_5, .int .i64 ((rd_T24 l0 Aa).f6), .bool ((rd_T24 l0 Aa).f7)] 24 (0, 0))) := ⟨by refine bz_ ?_; refine blk_put (cs := #[.int .i64 ((rd_T24 l0 Aa).f0), .int .i64 ((rd_T24 l0 Aa).f1), .int .i64 ((rd_T24 l0 Aa).f2), .int .i64 ((rd_T24 l0 Aa).f3), .int .i64 ((rd_T24 l0 Aa).f4), .slice A287_5 ((rd_T24 l0 Aa).f5).length c287_5, .int .i64 ((rd_T24 l0 Aa).f6), .bool false]) ?_ 7 _ rfl; refine bz_ ?_; refine blk_put (cs := #[.int .i64 ((rd_T24 l0 Aa).f0), .int .i64 ((rd_T24 l0 Aa).f1), .int .i64 ((rd_T24 l0 Aa).f2), .int .i64 ((rd_T24 l0 Aa).f3), .int .i64 ((rd_T24 l0 Aa).f4), .slice A287_5 ((rd_T24 l0 Aa).f5).length c287_5, .int .i64 0, .bool false]) ?_ 6 _ rfl; refine bz_ ?_; refine blk_put (cs := #[.int .i64 ((rd_T24 l0 Aa).f0), .int .i64 ((rd_T24 l0 Aa).f1), .int .i64 ((rd_T24 l0 Aa).f2), .int .i64 ((rd_T24 l0 Aa).f3), .int .i64 ((rd_T24 l0 Aa).f4), .slice none 0 0, .int .i64 0, .bool false]) ?_ 5 _ rfl; refine bz_ ?_; refine blk_put (cs := #[.int .i64 ((rd_T24 l0 Aa).f0), .int .i64 ((rd_T24 l0 Aa).f1), .int .i64 ((rd_T24 l0 Aa).f2), .int .i64 ((rd_T24 l0 Aa).f3), .int .i64 0, .slice none 0 0, .int .i64 0, .bool false]) ?_ 4 _ rfl; refine bz_ ?_; refine blk_put (cs := #[.int .i64 ((rd_T24 l0 Aa).f0), .int .i64 ((rd_T24 l0 Aa).f1), .int .i64 ((rd_T24 l0 Aa).f2), .int .i64 0, .int .i64 0, .slice none 0 0, .int .i64 0, .bool false]) ?_ 3 _ rfl; refine bz_ ?_; refine blk_put (cs := #[.int .i64 ((rd_T24 l0 Aa).f0), .int .i64 ((rd_T24 l0 Aa).f1), .int .i64 0, .int .i64 0, .int .i64 0, .slice none 0 0, .int .i64 0, .bool false]) ?_ 2 _ rfl; refine bz_ ?_; refine blk_put (cs := #[.int .i64 ((rd_T24 l0 Aa).f0), .int .i64 0, .int .i64 0, .int .i64 0, .int .i64 0, .slice none 0 0, .int .i64 0, .bool false]) ?_ 1 _ rfl; refine bz_ ?_; refine blk_put (cs := #[.int .i64 0, .int .i64 0, .int .i64 0, .int .i64 0, .int .i64 0, .slice none 0 0, .int .i64 0, .bool false]) ?_ 0 _ rfl; refine bz_ ?_; exact Ac.out⟩
      have n1_ : Aside0 (Below w.heap.size w ((((((((w13.setCell ⟨Ab, 0, none⟩ (.int .i64 ((rd_T24 l0 Aa).f0))).setCell ⟨Ab, 1, none⟩ (.int .i64 ((rd_T24 l0 Aa).f1))).setCell ⟨Ab, 2, none⟩ (.int .i64 ((rd_T24 l0 Aa).f2))).setCell ⟨Ab, 3, none⟩ (.int .i64 ((rd_T24 l0 Aa).f3))).setCell ⟨Ab, 4, none⟩ (.int .i64 ((rd_T24 l0 Aa).f4))).setCell ⟨Ab, 5, none⟩ (.slice A287_5 ((rd_T24 l0 Aa).f5).length c287_5)).setCell ⟨Ab, 6, none⟩ (.int .i64 ((rd_T24 l0 Aa).f6))).setCell ⟨Ab, 7, none⟩ (.bool ((rd_T24 l0 Aa).f7)))) := ⟨bw_q HB⟩
      (try clear Ac); (try clear HB)
      generalize ((((((((w13.setCell ⟨Ab, 0, none⟩ (.int .i64 ((rd_T24 l0 Aa).f0))).setCell ⟨Ab, 1, none⟩ (.int .i64 ((rd_T24 l0 Aa).f1))).setCell ⟨Ab, 2, none⟩ (.int .i64 ((rd_T24 l0 Aa).f2))).setCell ⟨Ab, 3, none⟩ (.int .i64 ((rd_T24 l0 Aa).f3))).setCell ⟨Ab, 4, none⟩ (.int .i64 ((rd_T24 l0 Aa).f4))).setCell ⟨Ab, 5, none⟩ (.slice A287_5 ((rd_T24 l0 Aa).f5).length c287_5)).setCell ⟨Ab, 6, none⟩ (.int .i64 ((rd_T24 l0 Aa).f6))).setCell ⟨Ab, 7, none⟩ (.bool ((rd_T24 l0 Aa).f7))) = w15 at n0_ n1_ ⊢
      have Ac := n0_; have HB := n1_; clear n0_ n1_; replace Ac := ak (blk_drew Ac.out); replace HB := ak (below_drew1 HB.out)
      refine start_ (n := 17) (S := fun w' => w'.cell? ⟨Ab, 0, none⟩ = some (.int .i64 ((rd_T24 l0 Aa).f0)) ∧ w'.cell? ⟨Ab, 1, none⟩ = some (.int .i64 ((rd_T24 l0 Aa).f1)) ∧ w'.cell? ⟨Ab, 2, none⟩ = some (.int .i64 ((rd_T24 l0 Aa).f2)) ∧ w'.cell? ⟨Ab, 3, none⟩ = some (.int .i64 ((rd_T24 l0 Aa).f3)) ∧ w'.cell? ⟨Ab, 4, none⟩ = some (.int .i64 ((rd_T24 l0 Aa).f4)) ∧ w'.cell? ⟨Ab, 5, none⟩ = some (.slice A287_5 ((rd_T24 l0 Aa).f5).length c287_5) ∧ w'.cell? ⟨Ab, 6, none⟩ = some (.int .i64 ((rd_T24 l0 Aa).f6)) ∧ w'.cell? ⟨Ab, 7, none⟩ = some (.bool ((rd_T24 l0 Aa).f7))) (ds := []) (bL 17 0) (by kernel_rfl) rfl rfl (cz8_ Ac) (fun hHeld => ?_); refine with_tabW impl_StoreOk.tab4 impl_StoreOk.bits4 (fun HT_ HW_ => ?_)
      generalize w15.drew = w16 at Ac HB hHeld ⊢
      refine take_ (i := 0) (N := some 12) (v := ?_) (a' := ?_) (bL 17 1) rfl rfl (take_ofW HT_.out HW_.out (by kernel_rfl)) (fun _ _ _ h => h) (Or.inl ⟨by rfl, ?_⟩) hHeld ?_ ?_; rotate_left; (rintro w' ⟨s0, s1, s2, s3, s4, s5, s6, s7⟩; go_simp; with_reducible rfl); rotate_left; (exact put_q)
      refine one_ (i := 1) (N := some 13) (bL 17 3) rfl rfl (one_of HT_.out (by kernel_rfl)) (by decide) (fun K hK => ?_)
      refine goes_ Try.func27 (by kernel_rfl) rfl #[.agg #[.int .i64 ((rd_T24 l0 Aa).f0), .int .i64 ((rd_T24 l0 Aa).f1), .int .i64 ((rd_T24 l0 Aa).f2), .int .i64 ((rd_T24 l0 Aa).f3), .int .i64 ((rd_T24 l0 Aa).f4), .slice A287_5 ((rd_T24 l0 Aa).f5).length c287_5, .int .i64 ((rd_T24 l0 Aa).f6), .bool ((rd_T24 l0 Aa).f7)]] (by rfl) rfl rfl mp_q ?_
      with_reducible refine (impl_RecordOk.calls k1 ((rd_T24 l0 Aa).f0) ((rd_T24 l0 Aa).f1) ((rd_T24 l0 Aa).f2) ((rd_T24 l0 Aa).f3) ((rd_T24 l0 Aa).f4) _ _ ((rd_T24 l0 Aa).f5) ((rd_T24 l0 Aa).f6) ((rd_T24 l0 Aa).f7) Bb _ ?side1 ?side2 A5.out).mono ?_
      (case side1 => exact cs_q (Kd.C_below Av.out HB.out))
      (case side2 => exact Aw.out)
      rintro e w17 ⟨rfl, hb⟩
      refine ⟨_, rfl, ?_⟩
      replace Ac := ak (blk_below (g := Ab) (bk_q Ac) hb); replace HB := ak (below_step (bw_q HB) hb)
      refine hK.out _ _ (cz8_ Ac) (fun hHeld => ?_)
      clear hK K
      refine norm_ (a' := ?_) ?_ ?_; rotate_left; (show Act.put _ (some 13) _ = _; simp only [Act.put, List.setIfInBounds_toArray, List.set_cons_zero, List.set_cons_succ, i64_w, i32_w]; rfl)
      refine pq_ 2 14 (bL 17 7) HT_.out rfl rfl ?_
      refine pq_ 3 15 (bL 17 15) HT_.out rfl rfl ?_
      have H := HZ1.out; clear HZ1
      by_cases c6 : Bb = true
      ·subst c6; rw [if_pos rfl] at H; have HZ2 := ak H; clear H
       refine pq_ 4 16 (bL 17 31) HT_.out rfl rfl ?_
       refine pq_ 5 17 (bL 17 63) HT_.out rfl rfl ?_
       refine pq_ 6 18 (bL 17 127) HT_.out rfl rfl ?_
       have H := HZ2.out; clear HZ2
       by_cases c7 : Aa > 0
       ·rw [if_pos c7] at H
        have Am : decide (0 < Aa) = true := decide_eq_true c7
        (first | rw [Am] | (simp only [i64_w, i32_w]; first | rw [Am]) | skip)
        clear c7; obtain ⟨ji8, hji8⟩ : ∃ j_ : Int, (wrap64 (Aa - 1)) = j_ := ⟨_, rfl⟩
        replace H : (if 0 ≤ (ji8) then (if (ji8) < (l0.length : Int) then ((impl_Before.f ((rd_T24 l0 (ji8)).f0) ((rd_T24 l0 (ji8)).f1) ((rd_T24 l0 (ji8)).f2) ((rd_T24 l0 (ji8)).f3) ((rd_T24 l0 (ji8)).f4) ((rd_T24 l0 (ji8)).f5) ((rd_T24 l0 (ji8)).f6) ((rd_T24 l0 (ji8)).f7) ((rd_T24 l0 Aa).f0) ((rd_T24 l0 Aa).f1) ((rd_T24 l0 Aa).f2) ((rd_T24 l0 Aa).f3) ((rd_T24 l0 Aa).f4) ((rd_T24 l0 Aa).f5) ((rd_T24 l0 Aa).f6) ((rd_T24 l0 Aa).f7)).bind fun Ax => (if Ax = true then (impl_StoreOk.l0 k1 l0 l0 (l0.length : Int) (wrap64 (Aa + 1))) else (some false))) else (none)) else (none)) = some r := by first | (rw [hji8] at H; exact H) | (simp only [hji8] at H ⊢; exact H)
        (try rw [hji8] at A5)
        have hji8w : (IntKind.i64.wrap (Aa - 1)) = ji8 := (i64_w _).trans hji8
        by_cases c9 : 0 ≤ (ji8)
        ·rw [if_pos c9] at H
         have Bz : decide (0 ≤ (ji8)) = true := decide_eq_true c9
         clear c9
         by_cases c10 : (ji8) < (l0.length : Int)
         ·rw [if_pos c10] at H
          have Bw : decide ((ji8) < (l0.length : Int)) = true := decide_eq_true c10
          clear c10; replace H := bsi H; obtain ⟨Ax, A110, H⟩ := H
          (try dsimp only at H)
          have A11 := ak A110; clear A110; have HZ3 := ak H; clear H
          have p290 : 0 ≤ ((ji8) : Int) := of_decide_eq_true as_q
          have q290 : (ji8) < (l0.length : Int) := of_decide_eq_true as_q
          obtain ⟨Bc, A290_5, c290_5, e290, Ae, Af, Ag, Ah, Ai, Aj, Ak, Al, hl290_5, hi290_5⟩ := at_T24 HR0.out (ji8) p290 q290; have hw290_7 := Al; have hw290_6 := Ak; have hw290_5 := Aj; have hw290_4 := Ai; have hw290_3 := Ah; have hw290_2 := Ag; have hw290_1 := Af; have hw290_0 := Ae
          obtain rfl : Ad = Bc := (by injection e290)
          replace Ae := hbc HB Ae; replace Af := hbc HB Af; replace Ag := hbc HB Ag; replace Ah := hbc HB Ah; replace Ai := hbc HB Ai; replace Aj := hbc HB Aj; replace Ak := hbc HB Ak; replace Al := hbc HB Al; have Az := ak hi290_5; have Ba := ak hl290_5; clear hi290_5 hl290_5; replace p290 := eq_true p290; replace q290 := eq_true q290
          refine last_weaken (fun w' => w'.cell? ⟨Ab, 0, none⟩ = some (.int .i64 ((rd_T24 l0 Aa).f0)) ∧ w'.cell? ⟨Ab, 1, none⟩ = some (.int .i64 ((rd_T24 l0 Aa).f1)) ∧ w'.cell? ⟨Ab, 2, none⟩ = some (.int .i64 ((rd_T24 l0 Aa).f2)) ∧ w'.cell? ⟨Ab, 3, none⟩ = some (.int .i64 ((rd_T24 l0 Aa).f3)) ∧ w'.cell? ⟨Ab, 4, none⟩ = some (.int .i64 ((rd_T24 l0 Aa).f4)) ∧ w'.cell? ⟨Ab, 5, none⟩ = some (.slice A287_5 ((rd_T24 l0 Aa).f5).length c287_5) ∧ w'.cell? ⟨Ab, 6, none⟩ = some (.int .i64 ((rd_T24 l0 Aa).f6)) ∧ w'.cell? ⟨Ab, 7, none⟩ = some (.bool ((rd_T24 l0 Aa).f7)) ∧ w'.cell? (Ad.add (((ji8)).toNat * 8)) = some (.int .i64 ((rd_T24 l0 (ji8)).f0)) ∧ w'.cell? ⟨(Ad.add (((ji8)).toNat * 8)).block, (Ad.add (((ji8)).toNat * 8)).off + 1, none⟩ = some (.int .i64 ((rd_T24 l0 (ji8)).f1)) ∧ w'.cell? ⟨(Ad.add (((ji8)).toNat * 8)).block, (Ad.add (((ji8)).toNat * 8)).off + 2, none⟩ = some (.int .i64 ((rd_T24 l0 (ji8)).f2)) ∧ w'.cell? ⟨(Ad.add (((ji8)).toNat * 8)).block, (Ad.add (((ji8)).toNat * 8)).off + 3, none⟩ = some (.int .i64 ((rd_T24 l0 (ji8)).f3)) ∧ w'.cell? ⟨(Ad.add (((ji8)).toNat * 8)).block, (Ad.add (((ji8)).toNat * 8)).off + 4, none⟩ = some (.int .i64 ((rd_T24 l0 (ji8)).f4)) ∧ w'.cell? ⟨(Ad.add (((ji8)).toNat * 8)).block, (Ad.add (((ji8)).toNat * 8)).off + 5, none⟩ = some (.slice A290_5 ((rd_T24 l0 (ji8)).f5).length c290_5) ∧ w'.cell? ⟨(Ad.add (((ji8)).toNat * 8)).block, (Ad.add (((ji8)).toNat * 8)).off + 6, none⟩ = some (.int .i64 ((rd_T24 l0 (ji8)).f6)) ∧ w'.cell? ⟨(Ad.add (((ji8)).toNat * 8)).block, (Ad.add (((ji8)).toNat * 8)).off + 7, none⟩ = some (.bool ((rd_T24 l0 (ji8)).f7))) (fun w' h_ => ⟨h_.1, h_.2.1, h_.2.2.1, h_.2.2.2.1, h_.2.2.2.2.1, h_.2.2.2.2.2.1, h_.2.2.2.2.2.2.1, h_.2.2.2.2.2.2.2.1⟩) ⟨hHeld.1, hHeld.2.1, hHeld.2.2.1, hHeld.2.2.2.1, hHeld.2.2.2.2.1, hHeld.2.2.2.2.2.1, hHeld.2.2.2.2.2.2.1, hHeld.2.2.2.2.2.2.2, (by first | assumption | exact ((HB.out.cell (World.block_lt_of_cell? w _ hw290_0)).trans hw290_0)), (by first | assumption | exact ((HB.out.cell (World.block_lt_of_cell? w _ hw290_1)).trans hw290_1)), (by first | assumption | exact ((HB.out.cell (World.block_lt_of_cell? w _ hw290_2)).trans hw290_2)), (by first | assumption | exact ((HB.out.cell (World.block_lt_of_cell? w _ hw290_3)).trans hw290_3)), (by first | assumption | exact ((HB.out.cell (World.block_lt_of_cell? w _ hw290_4)).trans hw290_4)), (by first | assumption | exact ((HB.out.cell (World.block_lt_of_cell? w _ hw290_5)).trans hw290_5)), (by first | assumption | exact ((HB.out.cell (World.block_lt_of_cell? w _ hw290_6)).trans hw290_6)), (by first | assumption | exact ((HB.out.cell (World.block_lt_of_cell? w _ hw290_7)).trans hw290_7))⟩ (fun hHeld => ?_)
          refine pq_ 7 19 (bL 17 255) HT_.out rfl rfl ?_
          refine pq_ 8 20 (bL 17 511) HT_.out rfl rfl ?_
          refine pq_ 9 21 (bL 17 1023) HT_.out rfl rfl ?_
          refine pq_ 10 22 (bL 17 2047) HT_.out rfl rfl ?_
          refine take_ (i := 11) (N := some 23) (v := ?_) (a' := ?_) (bL 17 4095) rfl rfl (take_ofW HT_.out HW_.out (by kernel_rfl)) (fun _ _ _ h => h) (Or.inl ⟨by rfl, ?_⟩) hHeld ?_ ?_; rotate_left; (rintro w' ⟨s0, s1, s2, s3, s4, s5, s6, s7, s8, s9, s10, s11, s12, s13, s14, s15⟩; go_simp; with_reducible rfl); rotate_left; (exact put_q)
          refine take_ (i := 12) (N := some 24) (v := ?_) (a' := ?_) (bL 17 8191) rfl rfl (take_ofW HT_.out HW_.out (by kernel_rfl)) (fun _ _ _ h => h) (Or.inl ⟨by rfl, ?_⟩) hHeld ?_ ?_; rotate_left; (rintro w' ⟨s0, s1, s2, s3, s4, s5, s6, s7, s8, s9, s10, s11, s12, s13, s14, s15⟩; go_simp; with_reducible rfl); rotate_left; (exact put_q)
          refine one_ (i := 13) (N := some 25) (bL 17 16383) rfl rfl (one_of HT_.out (by kernel_rfl)) (by decide) (fun K hK => ?_)
          refine goes_ Try.func94 (by kernel_rfl) rfl #[.agg #[.int .i64 ((rd_T24 l0 (ji8)).f0), .int .i64 ((rd_T24 l0 (ji8)).f1), .int .i64 ((rd_T24 l0 (ji8)).f2), .int .i64 ((rd_T24 l0 (ji8)).f3), .int .i64 ((rd_T24 l0 (ji8)).f4), .slice A290_5 ((rd_T24 l0 (ji8)).f5).length c290_5, .int .i64 ((rd_T24 l0 (ji8)).f6), .bool ((rd_T24 l0 (ji8)).f7)], .agg #[.int .i64 ((rd_T24 l0 Aa).f0), .int .i64 ((rd_T24 l0 Aa).f1), .int .i64 ((rd_T24 l0 Aa).f2), .int .i64 ((rd_T24 l0 Aa).f3), .int .i64 ((rd_T24 l0 Aa).f4), .slice A287_5 ((rd_T24 l0 Aa).f5).length c287_5, .int .i64 ((rd_T24 l0 Aa).f6), .bool ((rd_T24 l0 Aa).f7)]] (by rfl) rfl rfl (by (try simp only [List.map_toArray, List.map_cons, List.map_nil]); first | done | (simp only [hji8]; rfl) | rfl | (simp only [List.length_drop, List.length_take]; rfl)) ?_
          with_reducible refine (impl_Before.calls ((rd_T24 l0 (ji8)).f0) ((rd_T24 l0 (ji8)).f1) ((rd_T24 l0 (ji8)).f2) ((rd_T24 l0 (ji8)).f3) ((rd_T24 l0 (ji8)).f4) _ _ ((rd_T24 l0 (ji8)).f5) ((rd_T24 l0 (ji8)).f6) ((rd_T24 l0 (ji8)).f7) ((rd_T24 l0 Aa).f0) ((rd_T24 l0 Aa).f1) ((rd_T24 l0 Aa).f2) ((rd_T24 l0 Aa).f3) ((rd_T24 l0 Aa).f4) _ _ ((rd_T24 l0 Aa).f5) ((rd_T24 l0 Aa).f6) ((rd_T24 l0 Aa).f7) Ax _ ?side1 ?side2 ?side3 ?side4 A11.out).mono ?_
          (case side1 => exact cs_q (Kd.C_below Az.out HB.out))
          (case side2 => exact Ba.out)
          (case side3 => exact cs_q (Kd.C_below Av.out HB.out))
          (case side4 => exact Aw.out)
          rintro e w18 ⟨rfl, hb⟩
          refine ⟨_, rfl, ?_⟩
          replace Ac := ak (blk_below (g := Ab) (bk_q Ac) hb); replace HB := ak (below_step (bw_q HB) hb)
          refine hK.out _ _ ⟨(blk_cell Ac.out 0).trans rfl, (blk_cell Ac.out 1).trans rfl, (blk_cell Ac.out 2).trans rfl, (blk_cell Ac.out 3).trans rfl, (blk_cell Ac.out 4).trans rfl, (blk_cell Ac.out 5).trans rfl, (blk_cell Ac.out 6).trans rfl, (blk_cell Ac.out 7).trans rfl, ((HB.out.cell (World.block_lt_of_cell? w _ hw290_0)).trans hw290_0), ((HB.out.cell (World.block_lt_of_cell? w _ hw290_1)).trans hw290_1), ((HB.out.cell (World.block_lt_of_cell? w _ hw290_2)).trans hw290_2), ((HB.out.cell (World.block_lt_of_cell? w _ hw290_3)).trans hw290_3), ((HB.out.cell (World.block_lt_of_cell? w _ hw290_4)).trans hw290_4), ((HB.out.cell (World.block_lt_of_cell? w _ hw290_5)).trans hw290_5), ((HB.out.cell (World.block_lt_of_cell? w _ hw290_6)).trans hw290_6), ((HB.out.cell (World.block_lt_of_cell? w _ hw290_7)).trans hw290_7)⟩ (fun hHeld => ?_)
          clear hK K
          refine norm_ (a' := ?_) ?_ ?_; rotate_left; (show Act.put _ (some 25) _ = _; simp only [Act.put, List.setIfInBounds_toArray, List.set_cons_zero, List.set_cons_succ, i64_w, i32_w]; rfl)
          refine pq_ 14 26 (bL 17 32767) HT_.out rfl rfl ?_
          refine pq_ 15 27 (bL 17 65535) HT_.out rfl rfl ?_
          refine pq_ 16 28 (bL 17 131071) HT_.out rfl rfl ?_
          have H := HZ3.out; clear HZ3
          by_cases c12 : Ax = true
          ·subst c12; rw [if_pos rfl] at H; have H' := ak H; clear H
           refine done_ (done_of HT_.out (by kernel_rfl)) ?_
           try go_wp2
           go_roundg k1
           case measure => have := Ay.out; omega
           case rel => exact ⟨(wrap64 (Aa + 1)), rs_q, H', ⟨by have := Ay.out; omega⟩, ⟨bw_q HB⟩⟩
          ·replace c12 := Bool.eq_false_iff.mpr c12; subst c12
           rw [if_neg (show ¬ (false = true) by decide)] at H
           obtain rfl := Option.some.inj H
           refine done_ (done_of HT_.out (by kernel_rfl)) ?_
           try go_wp2
           go_ret
           exact ⟨by first | rfl | (simp [errW_none, errW_some] <;> rfl) | (simp only [← hji8]; first | rfl | (simp [errW_none, errW_some] <;> rfl)) | (simp [*, errW_none, errW_some] <;> rfl), bw_q HB⟩
         ·rw [if_neg c10] at H
          exact absurd H (by simp)
        ·rw [if_neg c9] at H
         exact absurd H (by simp)
       ·rw [if_neg c7] at H
        have Am : decide (0 < Aa) = false := decide_eq_false c7
        (first | rw [Am] | (simp only [i64_w, i32_w]; first | rw [Am]) | skip)
        clear c7; have H' := ak H; clear H
        refine pu_ 7 19 (bL 17 255) HT_.out rfl rfl ?_
        refine pu_ 8 20 (bL 17 511) HT_.out rfl rfl ?_
        refine pu_ 9 21 (bL 17 1023) HT_.out rfl rfl ?_
        refine pu_ 10 22 (bL 17 2047) HT_.out rfl rfl ?_
        refine pu_ 11 23 (bL 17 4095) HT_.out rfl rfl ?_
        refine pu_ 12 24 (bL 17 8191) HT_.out rfl rfl ?_
        refine pu_ 13 25 (bL 17 16383) HT_.out rfl rfl ?_
        refine pu_ 14 26 (bL 17 32767) HT_.out rfl rfl ?_
        refine pq_ 15 27 (bL 17 65535) HT_.out rfl rfl ?_
        refine pq_ 16 28 (bL 17 131071) HT_.out rfl rfl ?_
        refine done_ (done_of HT_.out (by kernel_rfl)) ?_
        try go_wp2
        go_roundg k1
        case measure => have := Ay.out; omega
        case rel => exact ⟨(wrap64 (Aa + 1)), rs_q, H', ⟨by have := Ay.out; omega⟩, ⟨bw_q HB⟩⟩
      ·replace c6 := Bool.eq_false_iff.mpr c6; subst c6
       rw [if_neg (show ¬ (false = true) by decide)] at H
       obtain rfl := Option.some.inj H
       refine pu_ 4 16 (bL 17 31) HT_.out rfl rfl ?_
       refine pu_ 5 17 (bL 17 63) HT_.out rfl rfl ?_
       refine pu_ 6 18 (bL 17 127) HT_.out rfl rfl ?_
       refine pu_ 7 19 (bL 17 255) HT_.out rfl rfl ?_
       refine pu_ 8 20 (bL 17 511) HT_.out rfl rfl ?_
       refine pu_ 9 21 (bL 17 1023) HT_.out rfl rfl ?_
       refine pu_ 10 22 (bL 17 2047) HT_.out rfl rfl ?_
       refine pu_ 11 23 (bL 17 4095) HT_.out rfl rfl ?_
       refine pu_ 12 24 (bL 17 8191) HT_.out rfl rfl ?_
       refine pu_ 13 25 (bL 17 16383) HT_.out rfl rfl ?_
       refine pu_ 14 26 (bL 17 32767) HT_.out rfl rfl ?_
       refine pu_ 15 27 (bL 17 65535) HT_.out rfl rfl ?_
       refine pq_ 16 28 (bL 17 131071) HT_.out rfl rfl ?_
       refine done_ (done_of HT_.out (by kernel_rfl)) ?_
       try go_wp2
       go_ret
       exact ⟨er_q, bw_q HB⟩
     ·rw [if_neg c4] at H
      exact absurd H (by simp)
    ·rw [if_neg c3] at H
     exact absurd H (by simp)
   ·rw [if_neg c2] at H
    have Bd : decide (Aa < (l0.length : Int)) = false := decide_eq_false c2
    clear c2; obtain rfl := Option.some.inj H
    go_wp2
    go_ret
    exact ⟨er_q, bw_q HB⟩

end Go.Proofs.Ytnecbkognpponaa.Q
