import Derived.Test.YtnecbkognpponaaXReadPacketQx45
/- The contract of a Go function. -/

namespace Go.Proofs.Ytnecbkognpponaa.Q
open Go.RowKit Go.Proofs.YtnecbkognpponaaW.PrintWords Go.Proofs.YtnecbkognpponaaW.PrintLast Go.Proofs.YtnecbkognpponaaW.PrintMore
attribute [local go_sem] max2_int min2_int max_two min_two max_three min_three max_four min_four   -- for this text's walks alone
set_option linter.unusedVariables false
set_option linter.unusedSimpArgs false

/-! ### laws_eqIntS: function 56 -/
def laws_eqIntS.l0 : Nat → List Int → List Int → Int → Option (Bool)
 | 0, _, _, _ => none
 | k + 1, b, c, a => if a < (b.length : Int) then (if 0 ≤ a then (if a < (c.length : Int) then (if (rd b a) = (rd c a) then (laws_eqIntS.l0 k b c (wrap64 (a + 1))) else (some false)) else (none)) else (none)) else (some true)
def laws_eqIntS.f (k : Nat) (l0 : List Int) (l1 : List Int) : Option (Bool) := if (l0.length : Int) = (l1.length : Int) then (laws_eqIntS.l0 k l0 l1 0) else (some false)
theorem laws_eqIntS.mono_l : ∀ k, (∀ y0 y1 y2, LeO (laws_eqIntS.l0 k y0 y1 y2) (laws_eqIntS.l0 (k + 1) y0 y1 y2))
 | 0 => fun _ _ _ r h => by simp [laws_eqIntS.l0] at h
 | k + 1 => by
  have ih0 := laws_eqIntS.mono_l k
  ·intro y0 y1 y2
   unfold laws_eqIntS.l0
   with_reducible repeat' (first | apply ih0 | exact LeO.refl _ | exact LeO.none _ | refine LeO.ite ?_ ?_ | refine LeO.bind ?_ (fun _ => ?_))
theorem laws_eqIntS.mono : ∀ a0 a1 k, LeO (laws_eqIntS.f k a0 a1) (laws_eqIntS.f (k + 1) a0 a1) := by
 intro a0 a1 k
 have ih0 := laws_eqIntS.mono_l k
 unfold laws_eqIntS.f
 with_reducible repeat' (first | apply ih0 | exact LeO.refl _ | exact LeO.none _ | refine LeO.ite ?_ ?_ | refine LeO.bind ?_ (fun _ => ?_))
set_option maxHeartbeats 8000000 in
set_option maxRecDepth 100000 in
theorem laws_eqIntS.calls (k : Nat) (A0 : Option Addr) (c0 : Nat) (l0 : List Int) (A1 : Option Addr) (c1 : Nat) (l1 : List Int) (r : Bool) (w : World) (hr0 : Kd.C (Kd.int .i64) w A0 l0.length l0) (hc0 : l0.length ≤ c0) (hr1 : Kd.C (Kd.int .i64) w A1 l1.length l1) (hc1 : l1.length ≤ c1) (h : laws_eqIntS.f k l0 l1 = some r) :
  Calls Try.prog 56 #[.slice A0 l0.length c0, .slice A1 l1.length c1] w fun e w' => e = .returned (.bool r) ∧ Drawn0 w w' := by
 have HR0 := ak hr0; have Ap := ak hc0; clear hr0 hc0; have HR1 := ak hr1; have Aq := ak hc1; clear hr1 hc1; have H := h
 clear h; unfold laws_eqIntS.f at H
 by_cases c3 : (l0.length : Int) = (l1.length : Int)
 ·rw [if_pos c3] at H
  have Af : ((l0.length : Int) == (l1.length : Int)) = true := bqi c3
  have Ag : ((l0.length : Int) != (l1.length : Int)) = false := bnf c3
  have Ah : (l0.length == l1.length) = true := by first | simpa using c3 | (simp at c3 ⊢; omega)
  clear c3; have H' := ak H; clear H
  go_enter Try.func56, Try.ntmps56
  go_wp2
  repeat (go_quiet (fail); try go_wp2)
  go_loopg [5] k (fun kq v5 w' => ∃ (Aa : Int), v5 = .int .i64 Aa ∧ Aside0 (laws_eqIntS.l0 kq l0 l1 Aa = some r) ∧ Aside0 (kq ≤ k) ∧ Drawn0 w w')
  case atStart => exact ⟨(0), rs_q, H', ⟨Nat.le_refl _⟩, by repeat (first | exact Drawn0.refl _ | apply Drawn0.step)⟩
  case round =>
   clear H'; (try clear c1); (try clear p2); (try clear c3); (try clear Af); (try clear Ag); (try clear Ah); obtain ⟨Aa, rfl, HA, Ai, ⟨m1, rfl⟩⟩ := hrel
   cases gk with
   | zero => exact absurd HA.out (by simp [laws_eqIntS.l0])
   | succ k1 =>
    have H := HA.out; clear HA
    simp only [laws_eqIntS.l0] at H
    by_cases c4 : Aa < (l0.length : Int)
    ·rw [if_pos c4] at H
     have Ak : decide (Aa < (l0.length : Int)) = true := decide_eq_true c4
     clear c4
     by_cases c5 : 0 ≤ Aa
     ·rw [if_pos c5] at H
      have An : decide (0 ≤ Aa) = true := decide_eq_true c5
      clear c5
      by_cases c6 : Aa < (l1.length : Int)
      ·rw [if_pos c6] at H
       have Ao : decide (Aa < (l1.length : Int)) = true := decide_eq_true c6
       clear c6; have Aj := ak H; clear H
       have p153 : 0 ≤ (Aa : Int) := of_decide_eq_true as_q
       have q153 : Aa < (l0.length : Int) := of_decide_eq_true as_q
       obtain ⟨Al, e153, Ad⟩ := Kd.at_int HR0.out Aa p153 q153
       cases e153
       replace p153 := eq_true p153; replace q153 := eq_true q153
       have p154 : 0 ≤ (Aa : Int) := of_decide_eq_true as_q
       have q154 : Aa < (l1.length : Int) := of_decide_eq_true as_q
       obtain ⟨Am, e154, Ae⟩ := Kd.at_int HR1.out Aa p154 q154
       cases e154
       replace p154 := eq_true p154; replace q154 := eq_true q154
       go_upto_if 25 with (fail)
       repeat (go_quiet (fail); go_upto_if 25 with (fail))
       (try clear Ad); (try clear Ae); have H := Aj.out; clear Aj
       by_cases c8 : (rd l0 Aa) = (rd l1 Aa)
       ·rw [if_pos c8] at H
        have Ab : ((rd l0 Aa) == (rd l1 Aa)) = true := bqi c8
        have Ac : ((rd l0 Aa) != (rd l1 Aa)) = false := bnf c8
        clear c8
        (first | rw [Ab] | rw [Ac] | (simp only [i64_w, i32_w]; first | rw [Ab] | rw [Ac]) | skip)
        have H' := ak H; clear H
        go_wp2
        repeat (go_quiet (fail); try go_wp2)
        go_roundg k1
        case measure => have := Ai.out; omega
        case rel => exact ⟨(wrap64 (Aa + 1)), rs_q, H', ⟨by have := Ai.out; omega⟩, by repeat (first | exact Drawn0.refl _ | apply Drawn0.step)⟩
       ·rw [if_neg c8] at H
        have Ab : ((rd l0 Aa) == (rd l1 Aa)) = false := bqf c8
        have Ac : ((rd l0 Aa) != (rd l1 Aa)) = true := bni c8
        (first | rw [Ab] | rw [Ac] | (simp only [i64_w, i32_w]; first | rw [Ab] | rw [Ac]) | skip)
        obtain rfl := Option.some.inj H
        go_wp2
        repeat (go_quiet (fail); try go_wp2)
        go_ret
        exact ⟨rs_q, dr_q⟩
      ·rw [if_neg c6] at H
       exact absurd H (by simp)
     ·rw [if_neg c5] at H
      exact absurd H (by simp)
    ·rw [if_neg c4] at H
     have Ak : decide (Aa < (l0.length : Int)) = false := decide_eq_false c4
     clear c4; obtain rfl := Option.some.inj H
     go_wp2
     repeat (go_quiet (fail); try go_wp2)
     go_ret
     exact ⟨rs_q, dr_q⟩
 ·rw [if_neg c3] at H
  have Af : ((l0.length : Int) == (l1.length : Int)) = false := bqf c3
  have Ag : ((l0.length : Int) != (l1.length : Int)) = true := bni c3
  have Ah : (l0.length == l1.length) = false := by first | simpa using c3 | (simp at c3 ⊢; omega)
  obtain rfl := Option.some.inj H
  go_enter Try.func56, Try.ntmps56
  go_wp2
  repeat (go_quiet (fail); try go_wp2)
  go_ret
  exact ⟨rs_q, dr_q⟩

/-! ### laws_eqNear: function 84 -/
def laws_eqNear.f (a : Int) (b : Int) (c : Int) (d : Int) : Option (Bool) := if a = c then (if b = d then (some true) else (some false)) else (some false)
set_option maxHeartbeats 8000000 in
set_option maxRecDepth 100000 in
theorem laws_eqNear.calls (Aa : Int) (Ab : Int) (Ad : Int) (Ae : Int) (r : Bool) (w : World) (h : laws_eqNear.f Aa Ab Ad Ae = some r) :
  Calls Try.prog 84 #[.agg #[.int .i64 Aa, .int .i64 Ab], .agg #[.int .i64 Ad, .int .i64 Ae]] w fun e w' => e = .returned (.bool r) ∧ Below w.heap.size w w' := by
 have hu63 := Try.underlying63; have HB := ak (Below.refl w.heap.size w); have H := h
 clear h; unfold laws_eqNear.f at H; have Ao := ak H; clear H
 go_enter Try.func84, Try.ntmps84
 go_upto_if 9 with (first | ((with_reducible refine gate_dst (N := 2) rfl ?_); refine box_q 2 #[.int .i64 Aa, .int .i64 Ab] 63 ?_; intro Ah hg w4 hbox hb; have Ac := ak (hbox); have Bn := gsz w (below_size (bw_q HB)) hg; have Bo := gsz w (below_size (bw_q HB)) hg; replace HB := ak (below_step (bw_q HB) hb); clear hb hbox hg) | ((with_reducible refine gate_dst (N := 3) rfl ?_); refine box_q 3 #[.int .i64 Ad, .int .i64 Ae] 63 ?_; intro Al hg w5 hbox hb; have Ak := ak (hbox); have Bp := gsz w (below_size (bw_q HB)) hg; have Bq := gsz w (below_size (bw_q HB)) hg; replace HB := ak (below_step (bw_q HB) hb); have Af := ak ((by rw [hg]; exact Nat.ne_of_lt (blk_lt (g := Ah) (o := .cells #[.int .i64 Aa, .int .i64 Ab] 63 (0, 0)) (bk_q Ac)) : Ah ≠ Al)); have Ag := ak ((by rw [hg]; exact Nat.ne_of_gt (blk_lt (g := Ah) (o := .cells #[.int .i64 Aa, .int .i64 Ab] 63 (0, 0)) (bk_q Ac)) : Al ≠ Ah)); replace Ac := ak (blk_below (g := Ah) (bk_q Ac) hb); clear hb hbox hg; have Bv := Af.out; have Bw := Ag.out; obtain ⟨Bf, Bg, Bh, Bi⟩ := cf2_ Ac; obtain ⟨Bj, Bk, Bl, Bm⟩ := cf2_ Ak))
 have H := Ao.out; clear Ao
 by_cases c9 : Aa = Ad
 ·rw [if_pos c9] at H
  have Ai : (Aa == Ad) = true := bqi c9
  have Aj : (Aa != Ad) = false := bnf c9
  clear c9
  (first | rw [Ai] | rw [Aj] | (simp only [i64_w, i32_w]; first | rw [Ai] | rw [Aj]) | skip)
  by_cases c10 : Ab = Ae
  ·rw [if_pos c10] at H
   have Am : (Ab == Ae) = true := bqi c10
   have An : (Ab != Ae) = false := bnf c10
   clear c10; obtain rfl := Option.some.inj H; have Br := Af.out; have Bs := Ag.out; obtain ⟨Ap, Aq, Ar, As⟩ := cf2_ Ac; obtain ⟨At, Au, Av, Aw⟩ := cf2_ Ak
   go_wp2
   go_ret
   exact ⟨er_q, bw_q HB⟩
  ·rw [if_neg c10] at H
   have Am : (Ab == Ae) = false := bqf c10
   have An : (Ab != Ae) = true := bni c10
   obtain rfl := Option.some.inj H; have Bt := Af.out; have Bu := Ag.out; obtain ⟨Ax, Ay, Az, Ba⟩ := cf2_ Ac; obtain ⟨Bb, Bc, Bd, Be⟩ := cf2_ Ak
   go_wp2
   go_ret
   exact ⟨er_q, bw_q HB⟩
 ·rw [if_neg c9] at H
  have Ai : (Aa == Ad) = false := bqf c9
  have Aj : (Aa != Ad) = true := bni c9
  (first | rw [Ai] | rw [Aj] | (simp only [i64_w, i32_w]; first | rw [Ai] | rw [Aj]) | skip)
  obtain rfl := Option.some.inj H
  go_wp2
  go_ret
  exact ⟨er_q, bw_q HB⟩

/-! ### laws_eqNearS: function 43 -/
def laws_eqNearS.l0 : Nat → List (S63) → List (S63) → Int → Option (Bool)
 | 0, _, _, _ => none
 | k + 1, b, c, a => if a < (b.length : Int) then (if 0 ≤ a then (if a < (c.length : Int) then ((laws_eqNear.f ((rd_T63 b a).f0) ((rd_T63 b a).f1) ((rd_T63 c a).f0) ((rd_T63 c a).f1)).bind fun d => (if d = true then (laws_eqNearS.l0 k b c (wrap64 (a + 1))) else (some false))) else (none)) else (none)) else (some true)
def laws_eqNearS.f (k : Nat) (l0 : List (S63)) (l1 : List (S63)) : Option (Bool) := if (l0.length : Int) = (l1.length : Int) then (laws_eqNearS.l0 k l0 l1 0) else (some false)
theorem laws_eqNearS.mono_l : ∀ k, (∀ y0 y1 y2, LeO (laws_eqNearS.l0 k y0 y1 y2) (laws_eqNearS.l0 (k + 1) y0 y1 y2))
 | 0 => fun _ _ _ r h => by simp [laws_eqNearS.l0] at h
 | k + 1 => by
  have ih0 := laws_eqNearS.mono_l k
  ·intro y0 y1 y2
   unfold laws_eqNearS.l0
   with_reducible repeat' (first | apply ih0 | exact LeO.refl _ | exact LeO.none _ | refine LeO.ite ?_ ?_ | refine LeO.bind ?_ (fun _ => ?_))
theorem laws_eqNearS.mono : ∀ a0 a1 k, LeO (laws_eqNearS.f k a0 a1) (laws_eqNearS.f (k + 1) a0 a1) := by
 intro a0 a1 k
 have ih0 := laws_eqNearS.mono_l k
 unfold laws_eqNearS.f
 with_reducible repeat' (first | apply ih0 | exact LeO.refl _ | exact LeO.none _ | refine LeO.ite ?_ ?_ | refine LeO.bind ?_ (fun _ => ?_))
def laws_eqNearS.T6 : Bool × List (List Nat × List Nat) := (true, [([], []), ([], []), ([0, 1], [0, 1]), ([2], [2]), ([], []), ([], []), ([4, 5], [4, 5]), ([6], [6]), ([3, 7], [3, 7]), ([8], [8])])
def laws_eqNearS.B6 : List Nat := [0, 0, 3, 7, 0, 0, 48, 112, 255, 511]
theorem laws_eqNearS.tab6 : rtab .any (opsOf Try.f43 6) = laws_eqNearS.T6 := by kernel_rfl
theorem laws_eqNearS.bits6 : waitsOk laws_eqNearS.T6.2 laws_eqNearS.B6 = true := by kernel_rfl
set_option maxHeartbeats 8000000 in
set_option maxRecDepth 100000 in
theorem laws_eqNearS.calls (k : Nat) (A0 : Option Addr) (c0 : Nat) (l0 : List (S63)) (A1 : Option Addr) (c1 : Nat) (l1 : List (S63)) (r : Bool) (w : World) (hr0 : Kd.C k63 w A0 l0.length l0) (hc0 : l0.length ≤ c0) (hr1 : Kd.C k63 w A1 l1.length l1) (hc1 : l1.length ≤ c1) (h : laws_eqNearS.f k l0 l1 = some r) :
  Calls Try.prog 43 #[.slice A0 l0.length c0, .slice A1 l1.length c1] w fun e w' => e = .returned (.bool r) ∧ Below w.heap.size w w' := by
 have hu63 := Try.underlying63; have HR0 := ak hr0; have Ap := ak hc0; clear hr0 hc0; have HR1 := ak hr1; have Aq := ak hc1; clear hr1 hc1; have HB := ak (Below.refl w.heap.size w); have H := h
 clear h; unfold laws_eqNearS.f at H
 by_cases c3 : (l0.length : Int) = (l1.length : Int)
 ·rw [if_pos c3] at H
  have Ah : ((l0.length : Int) == (l1.length : Int)) = true := bqi c3
  have Ai : ((l0.length : Int) != (l1.length : Int)) = false := bnf c3
  have Aj : (l0.length == l1.length) = true := by first | simpa using c3 | (simp at c3 ⊢; omega)
  clear c3; have H' := ak H; clear H
  go_enter Try.func43, Try.ntmps43
  go_wp2
  go_loopg [5] k (fun kq v5 w' => ∃ (Aa : Int), v5 = .int .i64 Aa ∧ Aside0 (laws_eqNearS.l0 kq l0 l1 Aa = some r) ∧ Aside0 (kq ≤ k) ∧ Aside0 (Below w.heap.size w w'))
  case atStart => exact ⟨(0), rs_q, H', ⟨Nat.le_refl _⟩, ⟨bw_q HB⟩⟩
  case round =>
   clear H'; (try clear c1); (try clear p2); (try clear c3); (try clear Ah); (try clear Ai); (try clear Aj); obtain ⟨Aa, rfl, HA, Al, HB⟩ := hrel
   cases gk with
   | zero => exact absurd HA.out (by simp [laws_eqNearS.l0])
   | succ k1 =>
    have H := HA.out; clear HA
    simp only [laws_eqNearS.l0] at H
    by_cases c4 : Aa < (l0.length : Int)
    ·rw [if_pos c4] at H
     have Am : decide (Aa < (l0.length : Int)) = true := decide_eq_true c4
     clear c4
     by_cases c5 : 0 ≤ Aa
     ·rw [if_pos c5] at H
      have An : decide (0 ≤ Aa) = true := decide_eq_true c5
      clear c5
      by_cases c6 : Aa < (l1.length : Int)
      ·rw [if_pos c6] at H
       have Ao : decide (Aa < (l1.length : Int)) = true := decide_eq_true c6
       clear c6; replace H := bsi H; obtain ⟨Ak, A70, H⟩ := H
       (try dsimp only at H)
       have A7 := ak A70; clear A70; have HZ9 := ak H; clear H
       try go_wp2
       replace HB := ak (below_drew1 HB.out)
       have p157 : 0 ≤ (Aa : Int) := of_decide_eq_true as_q
       have q157 : Aa < (l0.length : Int) := of_decide_eq_true as_q
       obtain ⟨Af, e157, Ab, Ac⟩ := at_T63 HR0.out Aa p157 q157; have hw157_1 := Ac; have hw157_0 := Ab
       cases e157
       replace Ab := hbc HB Ab; replace Ac := hbc HB Ac; replace p157 := eq_true p157; replace q157 := eq_true q157
       have p158 : 0 ≤ (Aa : Int) := of_decide_eq_true as_q
       have q158 : Aa < (l1.length : Int) := of_decide_eq_true as_q
       obtain ⟨Ag, e158, Ad, Ae⟩ := at_T63 HR1.out Aa p158 q158; have hw158_1 := Ae; have hw158_0 := Ad
       cases e158
       replace Ad := hbc HB Ad; replace Ae := hbc HB Ae; replace p158 := eq_true p158; replace q158 := eq_true q158
       refine start_ (n := 10) (S := fun w' => w'.cell? (Af.add ((Aa).toNat * 2)) = some (.int .i64 ((rd_T63 l0 Aa).f0)) ∧ w'.cell? ⟨(Af.add ((Aa).toNat * 2)).block, (Af.add ((Aa).toNat * 2)).off + 1, none⟩ = some (.int .i64 ((rd_T63 l0 Aa).f1)) ∧ w'.cell? (Ag.add ((Aa).toNat * 2)) = some (.int .i64 ((rd_T63 l1 Aa).f0)) ∧ w'.cell? ⟨(Ag.add ((Aa).toNat * 2)).block, (Ag.add ((Aa).toNat * 2)).off + 1, none⟩ = some (.int .i64 ((rd_T63 l1 Aa).f1))) (ds := []) (bL 10 0) (by kernel_rfl) rfl rfl ⟨((HB.out.cell (World.block_lt_of_cell? w _ hw157_0)).trans hw157_0), ((HB.out.cell (World.block_lt_of_cell? w _ hw157_1)).trans hw157_1), ((HB.out.cell (World.block_lt_of_cell? w _ hw158_0)).trans hw158_0), ((HB.out.cell (World.block_lt_of_cell? w _ hw158_1)).trans hw158_1)⟩ (fun hHeld => ?_); refine with_tabW laws_eqNearS.tab6 laws_eqNearS.bits6 (fun HT_ HW_ => ?_)
       generalize wr.drew = w9 at HB Ab Ac Ad Ae hHeld ⊢
       refine pq_ 0 17 (bL 10 1) HT_.out rfl rfl ?_
       refine pq_ 1 18 (bL 10 3) HT_.out rfl rfl ?_
       refine pq_ 2 19 (bL 10 7) HT_.out rfl rfl ?_
       refine pq_ 4 21 (bL 10 23) HT_.out rfl rfl ?_
       refine pq_ 5 22 (bL 10 55) HT_.out rfl rfl ?_
       refine pq_ 6 23 (bL 10 119) HT_.out rfl rfl ?_
       refine take_ (i := 3) (N := some 20) (v := ?_) (a' := ?_) (bL 10 127) rfl rfl (take_ofW HT_.out HW_.out (by kernel_rfl)) (fun _ _ _ h => h) (Or.inl ⟨by rfl, ?_⟩) hHeld ?_ ?_; rotate_left; (rintro w' ⟨s0, s1, s2, s3⟩; go_simp; with_reducible rfl); rotate_left; (exact put_q)
       refine take_ (i := 7) (N := some 24) (v := ?_) (a' := ?_) (bL 10 255) rfl rfl (take_ofW HT_.out HW_.out (by kernel_rfl)) (fun _ _ _ h => h) (Or.inl ⟨by rfl, ?_⟩) hHeld ?_ ?_; rotate_left; (rintro w' ⟨s0, s1, s2, s3⟩; go_simp; with_reducible rfl); rotate_left; (exact put_q)
       refine one_ (i := 8) (N := some 25) (bL 10 511) rfl rfl (one_of HT_.out (by kernel_rfl)) (by decide) (fun K hK => ?_)
       refine goes_ Try.func84 (by kernel_rfl) rfl #[.agg #[.int .i64 ((rd_T63 l0 Aa).f0), .int .i64 ((rd_T63 l0 Aa).f1)], .agg #[.int .i64 ((rd_T63 l1 Aa).f0), .int .i64 ((rd_T63 l1 Aa).f1)]] (by rfl) rfl rfl mp_q ?_
       with_reducible refine (laws_eqNear.calls ((rd_T63 l0 Aa).f0) ((rd_T63 l0 Aa).f1) ((rd_T63 l1 Aa).f0) ((rd_T63 l1 Aa).f1) Ak _ A7.out).mono ?_
       rintro e w10 ⟨rfl, hb⟩
       refine ⟨_, rfl, ?_⟩
       replace HB := ak (below_step (bw_q HB) hb)
       refine hK.out _ _ ⟨((HB.out.cell (World.block_lt_of_cell? w _ hw157_0)).trans hw157_0), ((HB.out.cell (World.block_lt_of_cell? w _ hw157_1)).trans hw157_1), ((HB.out.cell (World.block_lt_of_cell? w _ hw158_0)).trans hw158_0), ((HB.out.cell (World.block_lt_of_cell? w _ hw158_1)).trans hw158_1)⟩ (fun hHeld => ?_)
       clear hK K
       refine norm_ (a' := ?_) ?_ ?_; rotate_left; (show Act.put _ (some 25) _ = _; simp only [Act.put, List.setIfInBounds_toArray, List.set_cons_zero, List.set_cons_succ, i64_w, i32_w]; rfl)
       refine pq_ 9 26 (bL 10 1023) HT_.out rfl rfl ?_
       have H := HZ9.out; clear HZ9
       by_cases c8 : Ak = true
       ·subst c8; rw [if_pos rfl] at H; have H' := ak H; clear H
        refine done_ (done_of HT_.out (by kernel_rfl)) ?_
        try go_wp2
        go_roundg k1
        case measure => have := Al.out; omega
        case rel => exact ⟨(wrap64 (Aa + 1)), rs_q, H', ⟨by have := Al.out; omega⟩, ⟨bw_q HB⟩⟩
       ·replace c8 := Bool.eq_false_iff.mpr c8; subst c8
        rw [if_neg (show ¬ (false = true) by decide)] at H
        obtain rfl := Option.some.inj H
        refine done_ (done_of HT_.out (by kernel_rfl)) ?_
        try go_wp2
        go_ret
        exact ⟨er_q, bw_q HB⟩
      ·rw [if_neg c6] at H
       exact absurd H (by simp)
     ·rw [if_neg c5] at H
      exact absurd H (by simp)
    ·rw [if_neg c4] at H
     have Am : decide (Aa < (l0.length : Int)) = false := decide_eq_false c4
     clear c4; obtain rfl := Option.some.inj H
     go_wp2
     go_ret
     exact ⟨er_q, bw_q HB⟩
 ·rw [if_neg c3] at H
  have Ah : ((l0.length : Int) == (l1.length : Int)) = false := bqf c3
  have Ai : ((l0.length : Int) != (l1.length : Int)) = true := bni c3
  have Aj : (l0.length == l1.length) = false := by first | simpa using c3 | (simp at c3 ⊢; omega)
  obtain rfl := Option.some.inj H
  go_enter Try.func43, Try.ntmps43
  go_wp2
  go_ret
  exact ⟨er_q, bw_q HB⟩

/-! ### laws_eqRecord: function 11 -/
def laws_eqRecord.f (k : Nat) (b : Int) (c : Int) (d : Int) (e : Int) (g : Int) (h : List (S63)) (i : Int) (j : Bool) (l : Int) (m : Int) (n : Int) (o : Int) (p : Int) (q : List (S63)) (s : Int) (t : Bool) : Option (Bool) := if b = l then (if c = m then (if d = n then (if e = o then (if g = p then ((laws_eqNearS.f k h q).bind fun a => (if a = true then (if i = s then (if (j != t) = true then (some false) else (some true)) else (some false)) else (some false))) else (some false)) else (some false)) else (some false)) else (some false)) else (some false)
theorem laws_eqRecord.mono : ∀ a0 a1 a2 a3 a4 a5 a6 a7 a8 a9 a10 a11 a12 a13 a14 a15 k, LeO (laws_eqRecord.f k a0 a1 a2 a3 a4 a5 a6 a7 a8 a9 a10 a11 a12 a13 a14 a15) (laws_eqRecord.f (k + 1) a0 a1 a2 a3 a4 a5 a6 a7 a8 a9 a10 a11 a12 a13 a14 a15) := by
 intro a0 a1 a2 a3 a4 a5 a6 a7 a8 a9 a10 a11 a12 a13 a14 a15 k
 unfold laws_eqRecord.f
 with_reducible repeat' (first | apply laws_eqNearS.mono | exact LeO.refl _ | exact LeO.none _ | refine LeO.ite ?_ ?_ | refine LeO.bind ?_ (fun _ => ?_))
set_option maxHeartbeats 8000000 in
set_option maxRecDepth 100000 in
theorem laws_eqRecord.calls (k : Nat) (Ag : Int) (Ah : Int) (Ai : Int) (Aj : Int) (Ak : Int) (Ax : Option Addr) (Ay : Nat) (Al : List (S63)) (Am : Int) (Ae : Bool) (An : Int) (Ao : Int) (Ap : Int) (Aq : Int) (Ar : Int) (Bb : Option Addr) (Bc : Nat) (As : List (S63)) (At : Int) (Af : Bool) (r : Bool) (w : World) (hr0_5 : Kd.C k63 w Ax Al.length Al) (hc0_5 : Al.length ≤ Ay) (hr1_5 : Kd.C k63 w Bb As.length As) (hc1_5 : As.length ≤ Bc) (h : laws_eqRecord.f k Ag Ah Ai Aj Ak Al Am Ae An Ao Ap Aq Ar As At Af = some r) :
  Calls Try.prog 11 #[.agg #[.int .i64 Ag, .int .i64 Ah, .int .i64 Ai, .int .i64 Aj, .int .i64 Ak, .slice Ax Al.length Ay, .int .i64 Am, .bool Ae], .agg #[.int .i64 An, .int .i64 Ao, .int .i64 Ap, .int .i64 Aq, .int .i64 Ar, .slice Bb As.length Bc, .int .i64 At, .bool Af]] w fun e w' => e = .returned (.bool r) ∧ Below w.heap.size w w' := by
 have hu24 := Try.underlying24; have Bg := ak hr0_5; have Bh := ak hc0_5; clear hr0_5 hc0_5; have Bi := ak hr1_5; have Bj := ak hc1_5; clear hr1_5 hc1_5; have HB := ak (Below.refl w.heap.size w); have H := h
 clear h; unfold laws_eqRecord.f at H; have Bv := ak H; clear H
 go_enter Try.func11, Try.ntmps11
 go_upto_if 9 with (first | ((with_reducible refine gate_dst (N := 2) rfl ?_); refine box_q 2 #[.int .i64 Ag, .int .i64 Ah, .int .i64 Ai, .int .i64 Aj, .int .i64 Ak, .slice Ax Al.length Ay, .int .i64 Am, .bool Ae] 24 ?_; intro Au hg w4 hbox hb; have Ac := ak (hbox); have Mz := gsz w (below_size (bw_q HB)) hg; have Na := gsz w (below_size (bw_q HB)) hg; replace HB := ak (below_step (bw_q HB) hb); clear hb hbox hg) | ((with_reducible refine gate_dst (N := 3) rfl ?_); refine box_q 3 #[.int .i64 An, .int .i64 Ao, .int .i64 Ap, .int .i64 Aq, .int .i64 Ar, .slice Bb As.length Bc, .int .i64 At, .bool Af] 24 ?_; intro Bd hg w5 hbox hb; have Ad := ak (hbox); have Nb := gsz w (below_size (bw_q HB)) hg; have Nc := gsz w (below_size (bw_q HB)) hg; replace HB := ak (below_step (bw_q HB) hb); have Aa := ak ((by rw [hg]; exact Nat.ne_of_lt (blk_lt (g := Au) (o := .cells #[.int .i64 Ag, .int .i64 Ah, .int .i64 Ai, .int .i64 Aj, .int .i64 Ak, .slice Ax Al.length Ay, .int .i64 Am, .bool Ae] 24 (0, 0)) (bk_q Ac)) : Au ≠ Bd)); have Ab := ak ((by rw [hg]; exact Nat.ne_of_gt (blk_lt (g := Au) (o := .cells #[.int .i64 Ag, .int .i64 Ah, .int .i64 Ai, .int .i64 Aj, .int .i64 Ak, .slice Ax Al.length Ay, .int .i64 Am, .bool Ae] 24 (0, 0)) (bk_q Ac)) : Bd ≠ Au)); replace Ac := ak (blk_below (g := Au) (bk_q Ac) hb); clear hb hbox hg; have Nu := Aa.out; have Nv := Ab.out; obtain ⟨Lt, Lu, Lv, Lw, Lx, Ly, Lz, Ma, Mb, Mc, Md, Me, Mf, Mg, Mh, Mi⟩ := cf8_ Ac; obtain ⟨Mj, Mk, Ml, Mm, Mn, Mo, Mp, Mq, Mr, Ms, Mt, Mu, Mv, Mw, Mx, My⟩ := cf8_ Ad))
 have H := Bv.out; clear Bv
 by_cases c9 : Ag = An
 ·rw [if_pos c9] at H
  have Az : (Ag == An) = true := bqi c9
  have Ba : (Ag != An) = false := bnf c9
  clear c9
  (first | rw [Az] | rw [Ba] | (simp only [i64_w, i32_w]; first | rw [Az] | rw [Ba]) | skip)
  by_cases c10 : Ah = Ao
  ·rw [if_pos c10] at H
   have Bk : (Ah == Ao) = true := bqi c10
   have Bl : (Ah != Ao) = false := bnf c10
   clear c10
   by_cases c11 : Ai = Ap
   ·rw [if_pos c11] at H
    have Bm : (Ai == Ap) = true := bqi c11
    have Bn : (Ai != Ap) = false := bnf c11
    clear c11
    by_cases c12 : Aj = Aq
    ·rw [if_pos c12] at H
     have Bo : (Aj == Aq) = true := bqi c12
     have Bp : (Aj != Aq) = false := bnf c12
     clear c12
     by_cases c13 : Ak = Ar
     ·rw [if_pos c13] at H
      have Bq : (Ak == Ar) = true := bqi c13
      have Br : (Ak != Ar) = false := bnf c13
      clear c13; replace H := bsi H; obtain ⟨Be, A140, H⟩ := H
      (try dsimp only at H)
      have A14 := ak A140; clear A140; have Bf := ak H; clear H; have Nd := Aa.out; have Ne := Ab.out; obtain ⟨Bw, Bx, By, Bz, Ca, Cb, Cc, Cd, Ce, Cf, Cg, Ch, Ci, Cj, Ck, Cl⟩ := cf8_ Ac; obtain ⟨Cm, Cn, Co, Cp, Cq, Cr, Cs, Ct, Cu, Cv, Cw, Cx, Cy, Cz, Da, Db⟩ := cf8_ Ad
      go_upto_if 35 with (first | ((with_reducible refine gate_callee (f := 43) rfl ?_); refine goesL_ (some 34) rfl rfl Try.func43 (by kernel_rfl) rfl #[.slice Ax Al.length Ay, .slice Bb As.length Bc] rfl mp_q ?_; (with_reducible refine (laws_eqNearS.calls k _ _ Al _ _ As Be _ ?side1 ?side2 ?side3 ?side4 A14.out).mono ?_); (case side1 => exact cs_q (Kd.C_below Bg.out HB.out)); (case side2 => exact Bh.out); (case side3 => exact cs_q (Kd.C_below Bi.out HB.out)); (case side4 => exact Bj.out); rintro e w19 ⟨rfl, hb⟩; refine ⟨_, rfl, ?_⟩; replace Ac := ak (blk_below (g := Au) (bk_q Ac) hb); replace Ad := ak (blk_below (g := Bd) (bk_q Ad) hb); replace HB := ak (below_step (bw_q HB) hb)))
      have H := Bf.out; clear Bf
      by_cases c20 : Be = true
      ·subst c20; rw [if_pos rfl] at H
       by_cases c21 : Am = At
       ·rw [if_pos c21] at H
        have Av : (Am == At) = true := bqi c21
        have Aw : (Am != At) = false := bnf c21
        clear c21
        (first | rw [Av] | rw [Aw] | (simp only [i64_w, i32_w]; first | rw [Av] | rw [Aw]) | skip)
        by_cases c22 : (Ae != Af) = true
        ·rw [if_pos c22] at H
         have Bs : (Ae != Af) = true := c22
         (try (have Bt : decide (Ae = Af) = false := by simpa using c22))
         (try (have Bu : (Ae == Af) = false := by simpa using c22))
         (try (have Nf : ¬ (Ae = Af) := by simpa using c22))
         clear c22; obtain rfl := Option.some.inj H; have Ng := Aa.out; have Nh := Ab.out; obtain ⟨Dc, Dd, De, Df, Dg, Dh, Di, Dj, Dk, Dl, Dm, Dn, Do, Dp, Dq, Dr⟩ := cf8_ Ac; obtain ⟨Ds, Dt, Du, Dv, Dw, Dx, Dy, Dz, Ea, Eb, Ec, Ed, Ee, Ef, Eg, Eh⟩ := cf8_ Ad
         go_wp2
         go_ret
         exact ⟨er_q, bw_q HB⟩
        ·rw [if_neg c22] at H
         have Bs : (Ae != Af) = false := by simpa using c22
         (try (have Bt : decide (Ae = Af) = true := by simpa using c22))
         (try (have Bu : (Ae == Af) = true := by simpa using c22))
         clear c22; obtain rfl := Option.some.inj H; have Ni := Aa.out; have Nj := Ab.out; obtain ⟨Ei, Ej, Ek, El, Em, En, Eo, Ep, Eq, Er, Es, Et, Eu, Ev, Ew, Ex⟩ := cf8_ Ac; obtain ⟨Ey, Ez, Fa, Fb, Fc, Fd, Fe, Ff, Fg, Fh, Fi, Fj, Fk, Fl, Fm, Fn⟩ := cf8_ Ad
         go_wp2
         go_ret
         exact ⟨er_q, bw_q HB⟩
       ·rw [if_neg c21] at H
        have Av : (Am == At) = false := bqf c21
        have Aw : (Am != At) = true := bni c21
        (first | rw [Av] | rw [Aw] | (simp only [i64_w, i32_w]; first | rw [Av] | rw [Aw]) | skip)
        obtain rfl := Option.some.inj H; have Nk := Aa.out; have Nl := Ab.out; obtain ⟨Fo, Fp, Fq, Fr, Fs, Ft, Fu, Fv, Fw, Fx, Fy, Fz, Ga, Gb, Gc, Gd⟩ := cf8_ Ac; obtain ⟨Ge, Gf, Gg, Gh, Gi, Gj, Gk, Gl, Gm, Gn, Go, Gp, Gq, Gr, Gs, Gt⟩ := cf8_ Ad
        go_wp2
        go_ret
        exact ⟨er_q, bw_q HB⟩
      ·replace c20 := Bool.eq_false_iff.mpr c20; subst c20
       rw [if_neg (show ¬ (false = true) by decide)] at H
       obtain rfl := Option.some.inj H
       go_wp2
       go_ret
       exact ⟨er_q, bw_q HB⟩
     ·rw [if_neg c13] at H
      have Bq : (Ak == Ar) = false := bqf c13
      have Br : (Ak != Ar) = true := bni c13
      obtain rfl := Option.some.inj H; have Nm := Aa.out; have Nn := Ab.out; obtain ⟨Gu, Gv, Gw, Gx, Gy, Gz, Ha, Hb, Hc, Hd, He, Hf, Hg, Hh, Hi, Hj⟩ := cf8_ Ac; obtain ⟨Hk, Hl, Hm, Hn, Ho, Hp, Hq, Hr, Hs, Ht, Hu, Hv, Hw, Hx, Hy, Hz⟩ := cf8_ Ad
      go_wp2
      go_ret
      exact ⟨er_q, bw_q HB⟩
    ·rw [if_neg c12] at H
     have Bo : (Aj == Aq) = false := bqf c12
     have Bp : (Aj != Aq) = true := bni c12
     obtain rfl := Option.some.inj H; have No := Aa.out; have Np := Ab.out; obtain ⟨Ia, Ib, Ic, Id, Ie, If, Ig, Ih, Ii, Ij, Ik, Il, Im, In, Io, Ip⟩ := cf8_ Ac; obtain ⟨Iq, Ir, Is, It, Iu, Iv, Iw, Ix, Iy, Iz, Ja, Jb, Jc, Jd, Je, Jf⟩ := cf8_ Ad
     go_wp2
     go_ret
     exact ⟨er_q, bw_q HB⟩
   ·rw [if_neg c11] at H
    have Bm : (Ai == Ap) = false := bqf c11
    have Bn : (Ai != Ap) = true := bni c11
    obtain rfl := Option.some.inj H; have Nq := Aa.out; have Nr := Ab.out; obtain ⟨Jg, Jh, Ji, Jj, Jk, Jl, Jm, Jn, Jo, Jp, Jq, Jr, Js, Jt, Ju, Jv⟩ := cf8_ Ac; obtain ⟨Jw, Jx, Jy, Jz, Ka, Kb, Kc, Ke, Kf, Kg, Kh, Ki, Kj, Kk, Kl, Km⟩ := cf8_ Ad
    go_wp2
    go_ret
    exact ⟨er_q, bw_q HB⟩
  ·rw [if_neg c10] at H
   have Bk : (Ah == Ao) = false := bqf c10
   have Bl : (Ah != Ao) = true := bni c10
   obtain rfl := Option.some.inj H; have Ns := Aa.out; have Nt := Ab.out; obtain ⟨Kn, Ko, Kp, Kq, Kr, Ks, Kt, Ku, Kv, Kw, Kx, Ky, Kz, La, Lb, Lc⟩ := cf8_ Ac; obtain ⟨Ld, Le, Lf, Lg, Lh, Li, Lj, Lk, Ll, Lm, Ln, Lo, Lp, Lq, Lr, Ls⟩ := cf8_ Ad
   go_wp2
   go_ret
   exact ⟨er_q, bw_q HB⟩
 ·rw [if_neg c9] at H
  have Az : (Ag == An) = false := bqf c9
  have Ba : (Ag != An) = true := bni c9
  (first | rw [Az] | rw [Ba] | (simp only [i64_w, i32_w]; first | rw [Az] | rw [Ba]) | skip)
  obtain rfl := Option.some.inj H
  go_wp2
  go_ret
  exact ⟨er_q, bw_q HB⟩

/-! ### laws_eqRecordS: function 57 -/
def laws_eqRecordS.l0 : Nat → List (S24) → List (S24) → Int → Option (Bool)
 | 0, _, _, _ => none
 | k + 1, b, c, a => if a < (b.length : Int) then (if 0 ≤ a then (if a < (c.length : Int) then ((laws_eqRecord.f k ((rd_T24 b a).f0) ((rd_T24 b a).f1) ((rd_T24 b a).f2) ((rd_T24 b a).f3) ((rd_T24 b a).f4) ((rd_T24 b a).f5) ((rd_T24 b a).f6) ((rd_T24 b a).f7) ((rd_T24 c a).f0) ((rd_T24 c a).f1) ((rd_T24 c a).f2) ((rd_T24 c a).f3) ((rd_T24 c a).f4) ((rd_T24 c a).f5) ((rd_T24 c a).f6) ((rd_T24 c a).f7)).bind fun d => (if d = true then (laws_eqRecordS.l0 k b c (wrap64 (a + 1))) else (some false))) else (none)) else (none)) else (some true)
def laws_eqRecordS.f (k : Nat) (l0 : List (S24)) (l1 : List (S24)) : Option (Bool) := if (l0.length : Int) = (l1.length : Int) then (laws_eqRecordS.l0 k l0 l1 0) else (some false)
theorem laws_eqRecordS.mono_l : ∀ k, (∀ y0 y1 y2, LeO (laws_eqRecordS.l0 k y0 y1 y2) (laws_eqRecordS.l0 (k + 1) y0 y1 y2))
 | 0 => fun _ _ _ r h => by simp [laws_eqRecordS.l0] at h
 | k + 1 => by
  have ih0 := laws_eqRecordS.mono_l k
  ·intro y0 y1 y2
   unfold laws_eqRecordS.l0
   with_reducible repeat' (first | apply ih0 | apply laws_eqRecord.mono | exact LeO.refl _ | exact LeO.none _ | refine LeO.ite ?_ ?_ | refine LeO.bind ?_ (fun _ => ?_))
theorem laws_eqRecordS.mono : ∀ a0 a1 k, LeO (laws_eqRecordS.f k a0 a1) (laws_eqRecordS.f (k + 1) a0 a1) := by
 intro a0 a1 k
 have ih0 := laws_eqRecordS.mono_l k
 unfold laws_eqRecordS.f
 with_reducible repeat' (first | apply ih0 | apply laws_eqRecord.mono | exact LeO.refl _ | exact LeO.none _ | refine LeO.ite ?_ ?_ | refine LeO.bind ?_ (fun _ => ?_))
def laws_eqRecordS.T6 : Bool × List (List Nat × List Nat) := (true, [([], []), ([], []), ([0, 1], [0, 1]), ([2], [2]), ([], []), ([], []), ([4, 5], [4, 5]), ([6], [6]), ([3, 7], [3, 7]), ([8], [8])])
def laws_eqRecordS.B6 : List Nat := [0, 0, 3, 7, 0, 0, 48, 112, 255, 511]
theorem laws_eqRecordS.tab6 : rtab .any (opsOf Try.f57 6) = laws_eqRecordS.T6 := by kernel_rfl
theorem laws_eqRecordS.bits6 : waitsOk laws_eqRecordS.T6.2 laws_eqRecordS.B6 = true := by kernel_rfl
set_option maxHeartbeats 8000000 in
set_option maxRecDepth 100000 in
theorem laws_eqRecordS.calls (k : Nat) (A0 : Option Addr) (c0 : Nat) (l0 : List (S24)) (A1 : Option Addr) (c1 : Nat) (l1 : List (S24)) (r : Bool) (w : World) (hr0 : Kd.C k24 w A0 l0.length l0) (hc0 : l0.length ≤ c0) (hr1 : Kd.C k24 w A1 l1.length l1) (hc1 : l1.length ≤ c1) (h : laws_eqRecordS.f k l0 l1 = some r) :
  Calls Try.prog 57 #[.slice A0 l0.length c0, .slice A1 l1.length c1] w fun e w' => e = .returned (.bool r) ∧ Below w.heap.size w w' := by
 have hu24 := Try.underlying24; have HR0 := ak hr0; have Bf := ak hc0; clear hr0 hc0; have HR1 := ak hr1; have Bg := ak hc1; clear hr1 hc1; have HB := ak (Below.refl w.heap.size w); have H := h
 clear h; unfold laws_eqRecordS.f at H
 by_cases c3 : (l0.length : Int) = (l1.length : Int)
 ·rw [if_pos c3] at H
  have Ax : ((l0.length : Int) == (l1.length : Int)) = true := bqi c3
  have Ay : ((l0.length : Int) != (l1.length : Int)) = false := bnf c3
  have Az : (l0.length == l1.length) = true := by first | simpa using c3 | (simp at c3 ⊢; omega)
  clear c3; have H' := ak H; clear H
  go_enter Try.func57, Try.ntmps57
  go_wp2
  go_loopg [5] k (fun kq v5 w' => ∃ (Aa : Int), v5 = .int .i64 Aa ∧ Aside0 (laws_eqRecordS.l0 kq l0 l1 Aa = some r) ∧ Aside0 (kq ≤ k) ∧ Aside0 (Below w.heap.size w w'))
  case atStart => exact ⟨(0), rs_q, H', ⟨Nat.le_refl _⟩, ⟨bw_q HB⟩⟩
  case round =>
   clear H'; (try clear c1); (try clear p2); (try clear c3); (try clear Ax); (try clear Ay); (try clear Az); obtain ⟨Aa, rfl, HA, Bb, HB⟩ := hrel
   cases gk with
   | zero => exact absurd HA.out (by simp [laws_eqRecordS.l0])
   | succ k1 =>
    have H := HA.out; clear HA
    simp only [laws_eqRecordS.l0] at H
    by_cases c4 : Aa < (l0.length : Int)
    ·rw [if_pos c4] at H
     have Bc : decide (Aa < (l0.length : Int)) = true := decide_eq_true c4
     clear c4
     by_cases c5 : 0 ≤ Aa
     ·rw [if_pos c5] at H
      have Bd : decide (0 ≤ Aa) = true := decide_eq_true c5
      clear c5
      by_cases c6 : Aa < (l1.length : Int)
      ·rw [if_pos c6] at H
       have Be : decide (Aa < (l1.length : Int)) = true := decide_eq_true c6
       clear c6; replace H := bsi H; obtain ⟨Ba, A70, H⟩ := H
       (try dsimp only at H)
       have A7 := ak A70; clear A70; have HZ10 := ak H; clear H
       try go_wp2
       replace HB := ak (below_drew1 HB.out)
       have p163 : 0 ≤ (Aa : Int) := of_decide_eq_true as_q
       have q163 : Aa < (l0.length : Int) := of_decide_eq_true as_q
       obtain ⟨Ab, A163_5, c163_5, e163, Ad, Ae, Af, Ag, Ah, Ai, Aj, Ak, hl163_5, hi163_5⟩ := at_T24 HR0.out Aa p163 q163; have hw163_7 := Ak; have hw163_6 := Aj; have hw163_5 := Ai; have hw163_4 := Ah; have hw163_3 := Ag; have hw163_2 := Af; have hw163_1 := Ae; have hw163_0 := Ad
       cases e163
       replace Ad := hbc HB Ad; replace Ae := hbc HB Ae; replace Af := hbc HB Af; replace Ag := hbc HB Ag; replace Ah := hbc HB Ah; replace Ai := hbc HB Ai; replace Aj := hbc HB Aj; replace Ak := hbc HB Ak; have At := ak hi163_5; have Av := ak hl163_5; clear hi163_5 hl163_5; replace p163 := eq_true p163; replace q163 := eq_true q163
       have p164 : 0 ≤ (Aa : Int) := of_decide_eq_true as_q
       have q164 : Aa < (l1.length : Int) := of_decide_eq_true as_q
       obtain ⟨Ac, A164_5, c164_5, e164, Al, Am, An, Ao, Ap, Aq, Ar, As, hl164_5, hi164_5⟩ := at_T24 HR1.out Aa p164 q164; have hw164_7 := As; have hw164_6 := Ar; have hw164_5 := Aq; have hw164_4 := Ap; have hw164_3 := Ao; have hw164_2 := An; have hw164_1 := Am; have hw164_0 := Al
       cases e164
       replace Al := hbc HB Al; replace Am := hbc HB Am; replace An := hbc HB An; replace Ao := hbc HB Ao; replace Ap := hbc HB Ap; replace Aq := hbc HB Aq; replace Ar := hbc HB Ar; replace As := hbc HB As; have Au := ak hi164_5; have Aw := ak hl164_5; clear hi164_5 hl164_5; replace p164 := eq_true p164; replace q164 := eq_true q164
       refine start_ (n := 10) (S := fun w' => w'.cell? (Ab.add ((Aa).toNat * 8)) = some (.int .i64 ((rd_T24 l0 Aa).f0)) ∧ w'.cell? ⟨(Ab.add ((Aa).toNat * 8)).block, (Ab.add ((Aa).toNat * 8)).off + 1, none⟩ = some (.int .i64 ((rd_T24 l0 Aa).f1)) ∧ w'.cell? ⟨(Ab.add ((Aa).toNat * 8)).block, (Ab.add ((Aa).toNat * 8)).off + 2, none⟩ = some (.int .i64 ((rd_T24 l0 Aa).f2)) ∧ w'.cell? ⟨(Ab.add ((Aa).toNat * 8)).block, (Ab.add ((Aa).toNat * 8)).off + 3, none⟩ = some (.int .i64 ((rd_T24 l0 Aa).f3)) ∧ w'.cell? ⟨(Ab.add ((Aa).toNat * 8)).block, (Ab.add ((Aa).toNat * 8)).off + 4, none⟩ = some (.int .i64 ((rd_T24 l0 Aa).f4)) ∧ w'.cell? ⟨(Ab.add ((Aa).toNat * 8)).block, (Ab.add ((Aa).toNat * 8)).off + 5, none⟩ = some (.slice A163_5 ((rd_T24 l0 Aa).f5).length c163_5) ∧ w'.cell? ⟨(Ab.add ((Aa).toNat * 8)).block, (Ab.add ((Aa).toNat * 8)).off + 6, none⟩ = some (.int .i64 ((rd_T24 l0 Aa).f6)) ∧ w'.cell? ⟨(Ab.add ((Aa).toNat * 8)).block, (Ab.add ((Aa).toNat * 8)).off + 7, none⟩ = some (.bool ((rd_T24 l0 Aa).f7)) ∧ w'.cell? (Ac.add ((Aa).toNat * 8)) = some (.int .i64 ((rd_T24 l1 Aa).f0)) ∧ w'.cell? ⟨(Ac.add ((Aa).toNat * 8)).block, (Ac.add ((Aa).toNat * 8)).off + 1, none⟩ = some (.int .i64 ((rd_T24 l1 Aa).f1)) ∧ w'.cell? ⟨(Ac.add ((Aa).toNat * 8)).block, (Ac.add ((Aa).toNat * 8)).off + 2, none⟩ = some (.int .i64 ((rd_T24 l1 Aa).f2)) ∧ w'.cell? ⟨(Ac.add ((Aa).toNat * 8)).block, (Ac.add ((Aa).toNat * 8)).off + 3, none⟩ = some (.int .i64 ((rd_T24 l1 Aa).f3)) ∧ w'.cell? ⟨(Ac.add ((Aa).toNat * 8)).block, (Ac.add ((Aa).toNat * 8)).off + 4, none⟩ = some (.int .i64 ((rd_T24 l1 Aa).f4)) ∧ w'.cell? ⟨(Ac.add ((Aa).toNat * 8)).block, (Ac.add ((Aa).toNat * 8)).off + 5, none⟩ = some (.slice A164_5 ((rd_T24 l1 Aa).f5).length c164_5) ∧ w'.cell? ⟨(Ac.add ((Aa).toNat * 8)).block, (Ac.add ((Aa).toNat * 8)).off + 6, none⟩ = some (.int .i64 ((rd_T24 l1 Aa).f6)) ∧ w'.cell? ⟨(Ac.add ((Aa).toNat * 8)).block, (Ac.add ((Aa).toNat * 8)).off + 7, none⟩ = some (.bool ((rd_T24 l1 Aa).f7))) (ds := []) (bL 10 0) (by kernel_rfl) rfl rfl ⟨((HB.out.cell (World.block_lt_of_cell? w _ hw163_0)).trans hw163_0), ((HB.out.cell (World.block_lt_of_cell? w _ hw163_1)).trans hw163_1), ((HB.out.cell (World.block_lt_of_cell? w _ hw163_2)).trans hw163_2), ((HB.out.cell (World.block_lt_of_cell? w _ hw163_3)).trans hw163_3), ((HB.out.cell (World.block_lt_of_cell? w _ hw163_4)).trans hw163_4), ((HB.out.cell (World.block_lt_of_cell? w _ hw163_5)).trans hw163_5), ((HB.out.cell (World.block_lt_of_cell? w _ hw163_6)).trans hw163_6), ((HB.out.cell (World.block_lt_of_cell? w _ hw163_7)).trans hw163_7), ((HB.out.cell (World.block_lt_of_cell? w _ hw164_0)).trans hw164_0), ((HB.out.cell (World.block_lt_of_cell? w _ hw164_1)).trans hw164_1), ((HB.out.cell (World.block_lt_of_cell? w _ hw164_2)).trans hw164_2), ((HB.out.cell (World.block_lt_of_cell? w _ hw164_3)).trans hw164_3), ((HB.out.cell (World.block_lt_of_cell? w _ hw164_4)).trans hw164_4), ((HB.out.cell (World.block_lt_of_cell? w _ hw164_5)).trans hw164_5), ((HB.out.cell (World.block_lt_of_cell? w _ hw164_6)).trans hw164_6), ((HB.out.cell (World.block_lt_of_cell? w _ hw164_7)).trans hw164_7)⟩ (fun hHeld => ?_); refine with_tabW laws_eqRecordS.tab6 laws_eqRecordS.bits6 (fun HT_ HW_ => ?_)
       generalize wr.drew = w9 at HB At Au Ad Ae Af Ag Ah Ai Aj Ak Al Am An Ao Ap Aq Ar As hHeld ⊢
       refine pq_ 0 17 (bL 10 1) HT_.out rfl rfl ?_
       refine pq_ 1 18 (bL 10 3) HT_.out rfl rfl ?_
       refine pq_ 2 19 (bL 10 7) HT_.out rfl rfl ?_
       refine pq_ 4 21 (bL 10 23) HT_.out rfl rfl ?_
       refine pq_ 5 22 (bL 10 55) HT_.out rfl rfl ?_
       refine pq_ 6 23 (bL 10 119) HT_.out rfl rfl ?_
       refine take_ (i := 3) (N := some 20) (v := ?_) (a' := ?_) (bL 10 127) rfl rfl (take_ofW HT_.out HW_.out (by kernel_rfl)) (fun _ _ _ h => h) (Or.inl ⟨by rfl, ?_⟩) hHeld ?_ ?_; rotate_left; (rintro w' ⟨s0, s1, s2, s3, s4, s5, s6, s7, s8, s9, s10, s11, s12, s13, s14, s15⟩; go_simp; with_reducible rfl); rotate_left; (exact put_q)
       refine take_ (i := 7) (N := some 24) (v := ?_) (a' := ?_) (bL 10 255) rfl rfl (take_ofW HT_.out HW_.out (by kernel_rfl)) (fun _ _ _ h => h) (Or.inl ⟨by rfl, ?_⟩) hHeld ?_ ?_; rotate_left; (rintro w' ⟨s0, s1, s2, s3, s4, s5, s6, s7, s8, s9, s10, s11, s12, s13, s14, s15⟩; go_simp; with_reducible rfl); rotate_left; (exact put_q)
       refine one_ (i := 8) (N := some 25) (bL 10 511) rfl rfl (one_of HT_.out (by kernel_rfl)) (by decide) (fun K hK => ?_)
       refine goes_ Try.func11 (by kernel_rfl) rfl #[.agg #[.int .i64 ((rd_T24 l0 Aa).f0), .int .i64 ((rd_T24 l0 Aa).f1), .int .i64 ((rd_T24 l0 Aa).f2), .int .i64 ((rd_T24 l0 Aa).f3), .int .i64 ((rd_T24 l0 Aa).f4), .slice A163_5 ((rd_T24 l0 Aa).f5).length c163_5, .int .i64 ((rd_T24 l0 Aa).f6), .bool ((rd_T24 l0 Aa).f7)], .agg #[.int .i64 ((rd_T24 l1 Aa).f0), .int .i64 ((rd_T24 l1 Aa).f1), .int .i64 ((rd_T24 l1 Aa).f2), .int .i64 ((rd_T24 l1 Aa).f3), .int .i64 ((rd_T24 l1 Aa).f4), .slice A164_5 ((rd_T24 l1 Aa).f5).length c164_5, .int .i64 ((rd_T24 l1 Aa).f6), .bool ((rd_T24 l1 Aa).f7)]] (by rfl) rfl rfl mp_q ?_
       with_reducible refine (laws_eqRecord.calls k1 ((rd_T24 l0 Aa).f0) ((rd_T24 l0 Aa).f1) ((rd_T24 l0 Aa).f2) ((rd_T24 l0 Aa).f3) ((rd_T24 l0 Aa).f4) _ _ ((rd_T24 l0 Aa).f5) ((rd_T24 l0 Aa).f6) ((rd_T24 l0 Aa).f7) ((rd_T24 l1 Aa).f0) ((rd_T24 l1 Aa).f1) ((rd_T24 l1 Aa).f2) ((rd_T24 l1 Aa).f3) ((rd_T24 l1 Aa).f4) _ _ ((rd_T24 l1 Aa).f5) ((rd_T24 l1 Aa).f6) ((rd_T24 l1 Aa).f7) Ba _ ?side1 ?side2 ?side3 ?side4 A7.out).mono ?_
       (case side1 => exact cs_q (Kd.C_below At.out HB.out))
       (case side2 => exact Av.out)
       (case side3 => exact cs_q (Kd.C_below Au.out HB.out))
       (case side4 => exact Aw.out)
       rintro e w10 ⟨rfl, hb⟩
       refine ⟨_, rfl, ?_⟩
       replace HB := ak (below_step (bw_q HB) hb)
       refine hK.out _ _ ⟨((HB.out.cell (World.block_lt_of_cell? w _ hw163_0)).trans hw163_0), ((HB.out.cell (World.block_lt_of_cell? w _ hw163_1)).trans hw163_1), ((HB.out.cell (World.block_lt_of_cell? w _ hw163_2)).trans hw163_2), ((HB.out.cell (World.block_lt_of_cell? w _ hw163_3)).trans hw163_3), ((HB.out.cell (World.block_lt_of_cell? w _ hw163_4)).trans hw163_4), ((HB.out.cell (World.block_lt_of_cell? w _ hw163_5)).trans hw163_5), ((HB.out.cell (World.block_lt_of_cell? w _ hw163_6)).trans hw163_6), ((HB.out.cell (World.block_lt_of_cell? w _ hw163_7)).trans hw163_7), ((HB.out.cell (World.block_lt_of_cell? w _ hw164_0)).trans hw164_0), ((HB.out.cell (World.block_lt_of_cell? w _ hw164_1)).trans hw164_1), ((HB.out.cell (World.block_lt_of_cell? w _ hw164_2)).trans hw164_2), ((HB.out.cell (World.block_lt_of_cell? w _ hw164_3)).trans hw164_3), ((HB.out.cell (World.block_lt_of_cell? w _ hw164_4)).trans hw164_4), ((HB.out.cell (World.block_lt_of_cell? w _ hw164_5)).trans hw164_5), ((HB.out.cell (World.block_lt_of_cell? w _ hw164_6)).trans hw164_6), ((HB.out.cell (World.block_lt_of_cell? w _ hw164_7)).trans hw164_7)⟩ (fun hHeld => ?_)
       clear hK K
       refine norm_ (a' := ?_) ?_ ?_; rotate_left; (show Act.put _ (some 25) _ = _; simp only [Act.put, List.setIfInBounds_toArray, List.set_cons_zero, List.set_cons_succ, i64_w, i32_w]; rfl)
       refine pq_ 9 26 (bL 10 1023) HT_.out rfl rfl ?_
       have H := HZ10.out; clear HZ10
       by_cases c8 : Ba = true
       ·subst c8; rw [if_pos rfl] at H; have H' := ak H; clear H
        refine done_ (done_of HT_.out (by kernel_rfl)) ?_
        try go_wp2
        go_roundg k1
        case measure => have := Bb.out; omega
        case rel => exact ⟨(wrap64 (Aa + 1)), rs_q, H', ⟨by have := Bb.out; omega⟩, ⟨bw_q HB⟩⟩
       ·replace c8 := Bool.eq_false_iff.mpr c8; subst c8
        rw [if_neg (show ¬ (false = true) by decide)] at H
        obtain rfl := Option.some.inj H
        refine done_ (done_of HT_.out (by kernel_rfl)) ?_
        try go_wp2
        go_ret
        exact ⟨er_q, bw_q HB⟩
      ·rw [if_neg c6] at H
       exact absurd H (by simp)
     ·rw [if_neg c5] at H
      exact absurd H (by simp)
    ·rw [if_neg c4] at H
     have Bc : decide (Aa < (l0.length : Int)) = false := decide_eq_false c4
     clear c4; obtain rfl := Option.some.inj H
     go_wp2
     go_ret
     exact ⟨er_q, bw_q HB⟩
 ·rw [if_neg c3] at H
  have Ax : ((l0.length : Int) == (l1.length : Int)) = false := bqf c3
  have Ay : ((l0.length : Int) != (l1.length : Int)) = true := bni c3
  have Az : (l0.length == l1.length) = false := by first | simpa using c3 | (simp at c3 ⊢; omega)
  obtain rfl := Option.some.inj H
  go_enter Try.func57, Try.ntmps57
  go_wp2
  go_ret
  exact ⟨er_q, bw_q HB⟩

/-! ### laws_eqPacket: function 18 -/
def laws_eqPacket.f (k : Nat) (c : Int) (d : Int) (e : Int) (g : Int) (h : List Int) (i : List (S24)) (j : Int) (l : Int) (m : Int) (n : Int) (o : List Int) (p : List (S24)) : Option (Bool) := if c = j then (if d = l then (if e = m then (if g = n then ((laws_eqIntS.f k h o).bind fun a => (if a = true then ((laws_eqRecordS.f k i p).bind fun b => (if b = true then (some true) else (some false))) else (some false))) else (some false)) else (some false)) else (some false)) else (some false)
theorem laws_eqPacket.mono : ∀ a0 a1 a2 a3 a4 a5 a6 a7 a8 a9 a10 a11 k, LeO (laws_eqPacket.f k a0 a1 a2 a3 a4 a5 a6 a7 a8 a9 a10 a11) (laws_eqPacket.f (k + 1) a0 a1 a2 a3 a4 a5 a6 a7 a8 a9 a10 a11) := by
 intro a0 a1 a2 a3 a4 a5 a6 a7 a8 a9 a10 a11 k
 unfold laws_eqPacket.f
 with_reducible repeat' (first | apply laws_eqIntS.mono | apply laws_eqRecordS.mono | exact LeO.refl _ | exact LeO.none _ | refine LeO.ite ?_ ?_ | refine LeO.bind ?_ (fun _ => ?_))
set_option maxHeartbeats 8000000 in
set_option maxRecDepth 100000 in
theorem laws_eqPacket.calls (k : Nat) (Ae : Int) (Af : Int) (Ag : Int) (Ah : Int) (Ar : Option Addr) (As : Nat) (Ai : List Int) (At : Option Addr) (Au : Nat) (Aj : List (S24)) (Ak : Int) (Al : Int) (Am : Int) (An : Int) (Ax : Option Addr) (Ay : Nat) (Ao : List Int) (Az : Option Addr) (Ba : Nat) (Ap : List (S24)) (r : Bool) (w : World) (hr0_4 : Kd.C (Kd.int .i64) w Ar Ai.length Ai) (hc0_4 : Ai.length ≤ As) (hr0_5 : Kd.C k24 w At Aj.length Aj) (hc0_5 : Aj.length ≤ Au) (hr1_4 : Kd.C (Kd.int .i64) w Ax Ao.length Ao) (hc1_4 : Ao.length ≤ Ay) (hr1_5 : Kd.C k24 w Az Ap.length Ap) (hc1_5 : Ap.length ≤ Ba) (h : laws_eqPacket.f k Ae Af Ag Ah Ai Aj Ak Al Am An Ao Ap = some r) :
  Calls Try.prog 18 #[.agg #[.int .i64 Ae, .int .i64 Af, .int .i64 Ag, .int .i64 Ah, .slice Ar Ai.length As, .slice At Aj.length Au], .agg #[.int .i64 Ak, .int .i64 Al, .int .i64 Am, .int .i64 An, .slice Ax Ao.length Ay, .slice Az Ap.length Ba]] w fun e w' => e = .returned (.bool r) ∧ Below w.heap.size w w' := by
 have hu39 := Try.underlying39; have Bg := ak hr0_4; have Bh := ak hc0_4; clear hr0_4 hc0_4; have Bi := ak hr0_5; have Bj := ak hc0_5; clear hr0_5 hc0_5; have Bk := ak hr1_4; have Bl := ak hc1_4; clear hr1_4 hc1_4; have Bm := ak hr1_5; have Bn := ak hc1_5; clear hr1_5 hc1_5; have HB := ak (Below.refl w.heap.size w); have H := h
 clear h; unfold laws_eqPacket.f at H; have Bu := ak H; clear H
 go_enter Try.func18, Try.ntmps18
 go_upto_if 9 with (first | ((with_reducible refine gate_dst (N := 2) rfl ?_); refine box_q 2 #[.int .i64 Ae, .int .i64 Af, .int .i64 Ag, .int .i64 Ah, .slice Ar Ai.length As, .slice At Aj.length Au] 39 ?_; intro Aq hg w4 hbox hb; have Aa := ak (hbox); have Hj := gsz w (below_size (bw_q HB)) hg; have Hk := gsz w (below_size (bw_q HB)) hg; replace HB := ak (below_step (bw_q HB) hb); clear hb hbox hg) | ((with_reducible refine gate_dst (N := 3) rfl ?_); refine box_q 3 #[.int .i64 Ak, .int .i64 Al, .int .i64 Am, .int .i64 An, .slice Ax Ao.length Ay, .slice Az Ap.length Ba] 39 ?_; intro Bb hg w5 hbox hb; have Ad := ak (hbox); have Hl := gsz w (below_size (bw_q HB)) hg; have Hm := gsz w (below_size (bw_q HB)) hg; replace HB := ak (below_step (bw_q HB) hb); have Ab := ak ((by rw [hg]; exact Nat.ne_of_lt (blk_lt (g := Aq) (o := .cells #[.int .i64 Ae, .int .i64 Af, .int .i64 Ag, .int .i64 Ah, .slice Ar Ai.length As, .slice At Aj.length Au] 39 (0, 0)) (bk_q Aa)) : Aq ≠ Bb)); have Ac := ak ((by rw [hg]; exact Nat.ne_of_gt (blk_lt (g := Aq) (o := .cells #[.int .i64 Ae, .int .i64 Af, .int .i64 Ag, .int .i64 Ah, .slice Ar Ai.length As, .slice At Aj.length Au] 39 (0, 0)) (bk_q Aa)) : Bb ≠ Aq)); replace Aa := ak (blk_below (g := Aq) (bk_q Aa) hb); clear hb hbox hg; have Hx := Ab.out; have Hy := Ac.out; obtain ⟨Gl, Gm, Gn, Go, Gp, Gq, Gr, Gs, Gt, Gu, Gv, Gw⟩ := cf6_ Aa; obtain ⟨Gx, Gy, Gz, Ha, Hb, Hc, Hd, He, Hf, Hg, Hh, Hi⟩ := cf6_ Ad))
 have H := Bu.out; clear Bu
 by_cases c9 : Ae = Ak
 ·rw [if_pos c9] at H
  have Av : (Ae == Ak) = true := bqi c9
  have Aw : (Ae != Ak) = false := bnf c9
  clear c9
  (first | rw [Av] | rw [Aw] | (simp only [i64_w, i32_w]; first | rw [Av] | rw [Aw]) | skip)
  by_cases c10 : Af = Al
  ·rw [if_pos c10] at H
   have Bo : (Af == Al) = true := bqi c10
   have Bp : (Af != Al) = false := bnf c10
   clear c10
   by_cases c11 : Ag = Am
   ·rw [if_pos c11] at H
    have Bq : (Ag == Am) = true := bqi c11
    have Br : (Ag != Am) = false := bnf c11
    clear c11
    by_cases c12 : Ah = An
    ·rw [if_pos c12] at H
     have Bs : (Ah == An) = true := bqi c12
     have Bt : (Ah != An) = false := bnf c12
     clear c12; replace H := bsi H; obtain ⟨Bc, A130, H⟩ := H
     (try dsimp only at H)
     have A13 := ak A130; clear A130; have Bd := ak H; clear H; have Hn := Ab.out; have Ho := Ac.out; obtain ⟨Bv, Bw, Bx, By, Bz, Ca, Cb, Cc, Cd, Ce, Cf, Cg⟩ := cf6_ Aa; obtain ⟨Ch, Ci, Cj, Ck, Cl, Cm, Cn, Co, Cp, Cq, Cr, Cs⟩ := cf6_ Ad
     go_upto_if 30 with (first | ((with_reducible refine gate_callee (f := 56) rfl ?_); refine goesL_ (some 29) rfl rfl Try.func56 (by kernel_rfl) rfl #[.slice Ar Ai.length As, .slice Ax Ao.length Ay] rfl mp_q ?_; (with_reducible refine (laws_eqIntS.calls k _ _ Ai _ _ Ao Bc _ ?side1 ?side2 ?side3 ?side4 A13.out).mono ?_); (case side1 => exact cs_q (Kd.C_below Bg.out HB.out)); (case side2 => exact Bh.out); (case side3 => exact cs_q (Kd.C_below Bk.out HB.out)); (case side4 => exact Bl.out); rintro e w' ⟨rfl, ⟨nd, rfl⟩⟩; refine ⟨_, rfl, ?_⟩))
     have H := Bd.out; clear Bd
     by_cases c18 : Bc = true
     ·subst c18; rw [if_pos rfl] at H; replace H := bsi H; obtain ⟨Be, A190, H⟩ := H
      (try dsimp only at H)
      have A19 := ak A190; clear A190; have Bf := ak H; clear H; have Hp := Ab.out; have Hq := Ac.out; obtain ⟨Ct, Cu, Cv, Cw, Cx, Cy, Cz, Da, Db, Dc, Dd, De⟩ := cf6_ Aa; obtain ⟨Df, Dg, Dh, Di, Dj, Dk, Dl, Dm, Dn, Do, Dp, Dq⟩ := cf6_ Ad
      go_upto_if 36 with (first | ((with_reducible refine gate_callee (f := 57) rfl ?_); refine goesL_ (some 35) rfl rfl Try.func57 (by kernel_rfl) rfl #[.slice At Aj.length Au, .slice Az Ap.length Ba] rfl mp_q ?_; (with_reducible refine (laws_eqRecordS.calls k _ _ Aj _ _ Ap Be _ ?side1 ?side2 ?side3 ?side4 A19.out).mono ?_); (case side1 => exact cs_q (Kd.C_below Bi.out HB.out)); (case side2 => exact Bj.out); (case side3 => exact cs_q (Kd.C_below Bm.out HB.out)); (case side4 => exact Bn.out); rintro e w24 ⟨rfl, hb⟩; refine ⟨_, rfl, ?_⟩; replace Aa := ak (blk_below (g := Aq) (bk_q Aa) hb); replace Ad := ak (blk_below (g := Bb) (bk_q Ad) hb); replace HB := ak (below_step (bw_q HB) hb)))
      have H := Bf.out; clear Bf
      by_cases c25 : Be = true
      ·subst c25; rw [if_pos rfl] at H; obtain rfl := Option.some.inj H
       go_wp2
       go_ret
       exact ⟨er_q, bw_q HB⟩
      ·replace c25 := Bool.eq_false_iff.mpr c25; subst c25
       rw [if_neg (show ¬ (false = true) by decide)] at H
       obtain rfl := Option.some.inj H
       go_wp2
       go_ret
       exact ⟨er_q, bw_q HB⟩
     ·replace c18 := Bool.eq_false_iff.mpr c18; subst c18
      rw [if_neg (show ¬ (false = true) by decide)] at H
      obtain rfl := Option.some.inj H
      go_wp2
      go_ret
      exact ⟨er_q, bw_q HB⟩
    ·rw [if_neg c12] at H
     have Bs : (Ah == An) = false := bqf c12
     have Bt : (Ah != An) = true := bni c12
     obtain rfl := Option.some.inj H; have Hr := Ab.out; have Hs := Ac.out; obtain ⟨Dr, Ds, Dt, Du, Dv, Dw, Dx, Dy, Dz, Ea, Eb, Ec⟩ := cf6_ Aa; obtain ⟨Ed, Ee, Ef, Eg, Eh, Ei, Ej, Ek, El, Em, En, Eo⟩ := cf6_ Ad
     go_wp2
     go_ret
     exact ⟨er_q, bw_q HB⟩
   ·rw [if_neg c11] at H
    have Bq : (Ag == Am) = false := bqf c11
    have Br : (Ag != Am) = true := bni c11
    obtain rfl := Option.some.inj H; have Ht := Ab.out; have Hu := Ac.out; obtain ⟨Ep, Eq, Er, Es, Et, Eu, Ev, Ew, Ex, Ey, Ez, Fa⟩ := cf6_ Aa; obtain ⟨Fb, Fc, Fd, Fe, Ff, Fg, Fh, Fi, Fj, Fk, Fl, Fm⟩ := cf6_ Ad
    go_wp2
    go_ret
    exact ⟨er_q, bw_q HB⟩
  ·rw [if_neg c10] at H
   have Bo : (Af == Al) = false := bqf c10
   have Bp : (Af != Al) = true := bni c10
   obtain rfl := Option.some.inj H; have Hv := Ab.out; have Hw := Ac.out; obtain ⟨Fn, Fo, Fp, Fq, Fr, Fs, Ft, Fu, Fv, Fw, Fx, Fy⟩ := cf6_ Aa; obtain ⟨Fz, Ga, Gb, Gc, Gd, Ge, Gf, Gg, Gh, Gi, Gj, Gk⟩ := cf6_ Ad
   go_wp2
   go_ret
   exact ⟨er_q, bw_q HB⟩
 ·rw [if_neg c9] at H
  have Av : (Ae == Ak) = false := bqf c9
  have Aw : (Ae != Ak) = true := bni c9
  (first | rw [Av] | rw [Aw] | (simp only [i64_w, i32_w]; first | rw [Av] | rw [Aw]) | skip)
  obtain rfl := Option.some.inj H
  go_wp2
  go_ret
  exact ⟨er_q, bw_q HB⟩

/-! ### laws_markIntS: function 61 -/
def laws_markIntS.l0 : Nat → List Int → Int → Int → Option (Int × List Int)
 | 0, _, _, _ => none
 | k + 1, b, c, a => if a < (b.length : Int) then (if 0 ≤ a then (laws_markIntS.l0 k (b.set (a : Int).toNat c) (wrap64 (c + 1)) (wrap64 (a + 1))) else (none)) else (some (c, b))
def laws_markIntS.f (k : Nat) (l0 : List Int) (a1 : Int) : Option (Int × List Int) := laws_markIntS.l0 k l0 a1 0
theorem laws_markIntS.mono_l : ∀ k, (∀ y0 y1 y2, LeO (laws_markIntS.l0 k y0 y1 y2) (laws_markIntS.l0 (k + 1) y0 y1 y2))
 | 0 => fun _ _ _ r h => by simp [laws_markIntS.l0] at h
 | k + 1 => by
  have ih0 := laws_markIntS.mono_l k
  ·intro y0 y1 y2
   unfold laws_markIntS.l0
   with_reducible repeat' (first | apply ih0 | exact LeO.refl _ | exact LeO.none _ | refine LeO.ite ?_ ?_ | refine LeO.bind ?_ (fun _ => ?_))
theorem laws_markIntS.mono : ∀ a0 a1 k, LeO (laws_markIntS.f k a0 a1) (laws_markIntS.f (k + 1) a0 a1) := by
 intro a0 a1 k
 have ih0 := laws_markIntS.mono_l k
 unfold laws_markIntS.f
 with_reducible repeat' (first | apply ih0 | exact LeO.refl _ | exact LeO.none _ | refine LeO.ite ?_ ?_ | refine LeO.bind ?_ (fun _ => ?_))
set_option maxHeartbeats 8000000 in
set_option maxRecDepth 100000 in
theorem laws_markIntS.calls (k : Nat) (P0_ : Nat → Prop) (u9000_ : Value) (l0 : List Int) (a1 : Int) (r1 : Int) (r2 : List Int) (w0 w : World) (hB : Below w0.heap.size w0 w) (ho0 : Kd.R (Kd.int .i64) 3 w w0.heap.size P0_ u9000_ l0) (h : laws_markIntS.f k l0 a1 = some (r1, r2)) :
  Calls Try.prog 61 #[u9000_, .int .i64 a1] w fun e w' => e = .returned (.int .i64 r1) ∧ Kd.R (Kd.int .i64) 3 w' w0.heap.size (fun k_ => (P0_ k_ ∨ w.heap.size ≤ k_)) u9000_ r2 ∧ Below w0.heap.size w0 w' ∧ Kept w w' (fun k_ => P0_ k_) := by
 have Ak := ak (show Kd.R (Kd.int .i64) 3 w w0.heap.size (fun k_ => (P0_ k_ ∨ w.heap.size ≤ k_)) u9000_ l0 from Kd.R_mono ho0 (fun k_ hk => (.inl hk)))
 have HK := ak (Kept.refl w (fun k_ => P0_ k_))
 have HW0 := ak hB.size; have HB := ak hB; clear hB; have H := h
 clear h; unfold laws_markIntS.f at H; have H' := ak H; clear H
 go_enter Try.func61, Try.ntmps61
 go_wp2
 go_loopg [1, 5] k (fun kq v1 v5 w' => ∃ (Ac : List Int) (Ad : Int) (Aa : Int), v1 = .int .i64 Ad ∧ v5 = .int .i64 Aa ∧ Aside0 (laws_markIntS.l0 kq Ac Ad Aa = some (r1, r2)) ∧ Aside0 (kq ≤ k) ∧ Aside0 (Kd.R (Kd.int .i64) 3 w' w0.heap.size (fun k_ => (P0_ k_ ∨ w.heap.size ≤ k_)) u9000_ Ac) ∧ Aside0 (Kept w w' (fun k_ => P0_ k_)) ∧ Aside0 (Below w0.heap.size w0 w'))
 case atStart => exact ⟨(l0), (a1), (0), rs_q, rs_q, H', ⟨Nat.le_refl _⟩, ⟨kR_q Ak⟩, ⟨hk_q HK⟩, ⟨bw_q HB⟩⟩
 case round =>
  clear H'; (try clear p2); obtain ⟨Ac, Ad, Aa, rfl, rfl, HA, Ah, Ab, HK, HB⟩ := hrel
  cases gk with
  | zero => exact absurd HA.out (by simp [laws_markIntS.l0])
  | succ k1 =>
   have H := HA.out; clear HA
   simp only [laws_markIntS.l0] at H
   by_cases c3 : Aa < (Ac.length : Int)
   ·rw [if_pos c3] at H
    have Aj : decide (Aa < (Ac.length : Int)) = true := decide_eq_true c3
    clear c3
    by_cases c4 : 0 ≤ Aa
    ·rw [if_pos c4] at H
     have Am : decide (0 ≤ Aa) = true := decide_eq_true c4
     clear c4; obtain ⟨Af, Ae⟩ : ∃ y_ : List Int, y_ = (Ac.set (Aa : Int).toNat Ad) := ⟨_, rfl⟩
     replace H : (laws_markIntS.l0 k1 Af (wrap64 (Ad + 1)) (wrap64 (Aa + 1))) = some (r1, r2) := by first | (rw [Ae]; with_reducible exact H) | (have H2_ := (Option.bind_some _ _).symm.trans H; rw [Ae]; with_reducible exact H2_) | (have H2_ := (Option.bind_some _ _).symm.trans H; with_reducible exact H2_) | with_reducible exact H | (rw [Ae]; exact H) | exact H
     have Ag := ak Ae; clear Ae; have H' := ak H; clear H; obtain ⟨Ao6, co6, eo6⟩ := Kd.R_slice Ab.out; subst eo6
     have p5 : 0 ≤ (Aa : Int) := of_decide_eq_true as_q
     have q5 : (Aa : Int) < ((Ac.length : Int) : Int) := of_decide_eq_true as_q
     obtain ⟨go5, co5, eo5, Ai, gl5, cl5, HG5⟩ := Kd.R_form Ab.out (by omega)
     (first | cases eo5 | (injection eo5 with ea_ en_ ec_; (first | subst ea_ | (injection ea_ with ea_; subst ea_)); subst ec_; clear en_))
     have GB5 := ak Ai; have GG5 := ak HG5; clear Ai gl5 HG5
     have HMgo5 := ak (show (P0_ go5 ∨ w.heap.size ≤ go5) from (Ab.out.1 _ rfl))
     obtain ⟨Al, hf5_0⟩ := Kd.R_celln 0 Ab.out (Aa : Int) p5 q5; replace p5 := eq_true p5; replace q5 := eq_true q5; have HP7 := Kd.R_putg Ab.out (Aa : Int) Ad
     go_wp2_with (first | ((with_reducible refine gate_store (t := 3) (p := 15) rfl ?_); refine store_event (t := 3) (p := 15) (v := ?vo_w8) (w1 := (wr.setCell ⟨go5, (Aa : Int).toNat, none⟩ (.int .i64 Ad))) ?hg ?ho ?hn ?hr ?_; (case ho => rfl); (case hg => rfl); (case hn => rfl); (case hr => first | (go_simp; done) | (go_simp; rfl)); intro w8 hw; have hg : wr.grownBy w8 (some go5) := (by rw [hw]; exact HP7.2); have hp_ : Kd.R (Kd.int .i64) 3 w8 w0.heap.size (fun k_ => (P0_ k_ ∨ w.heap.size ≤ k_)) (.slice (some ⟨go5, 0, none⟩) Ac.length co6) Af := (by rw [hw, Ag.out]; exact HP7.1); clear HP7; replace HB := ak ((by rw [hw]; exact below_set (HB.out) GB5.out : Below w0.heap.size w0 w8)); replace HK := ak (Kept.of_grown (S := (fun k_ => P0_ k_)) hg (hk_q HK) (fun k_ e_ => (Ab.out.1 k_ e_))); replace Ab := ak (hp_); clear hg hw hp_))
     go_roundg k1
     case measure => have := Ah.out; omega
     case rel => exact ⟨(Af), (wrap64 (Ad + 1)), (wrap64 (Aa + 1)), rs_q, rs_q, H', ⟨by have := Ah.out; omega⟩, ⟨kR_q Ab⟩, ⟨hk_q HK⟩, ⟨bw_q HB⟩⟩
    ·rw [if_neg c4] at H
     exact absurd H (by simp)
   ·rw [if_neg c3] at H
    have Aj : decide (Aa < (Ac.length : Int)) = false := decide_eq_false c3
    clear c3
    simp only [Option.some.injEq, Prod.mk.injEq] at H
    obtain ⟨rfl, rfl⟩ := H; obtain ⟨Ao9, co9, eo9⟩ := Kd.R_slice Ab.out; subst eo9
    go_wp2
    go_ret
    exact ⟨er_q, kR_q Ab, bw_q HB, hk_q HK⟩

/-! ### laws_markNearS: function 44 -/
def laws_markNearS.l0 : Nat → List (S63) → Int → Int → Option (Int × (List (S63)))
 | 0, _, _, _ => none
 | k + 1, c, d, a => if a < (c.length : Int) then (if 0 ≤ a then ((some (c.set (a : Int).toNat (⟨d, (rd_T63 c a).f1⟩ : S63) : List (S63))).bind fun b => (laws_markNearS.l0 k (b.set (a : Int).toNat (⟨(rd_T63 b a).f0, wrap64 (d + 1)⟩ : S63)) (wrap64 ((wrap64 (d + 1)) + 1)) (wrap64 (a + 1)))) else (none)) else (some (d, c))
def laws_markNearS.f (k : Nat) (l0 : List (S63)) (a1 : Int) : Option (Int × (List (S63))) := laws_markNearS.l0 k l0 a1 0
theorem laws_markNearS.mono_l : ∀ k, (∀ y0 y1 y2, LeO (laws_markNearS.l0 k y0 y1 y2) (laws_markNearS.l0 (k + 1) y0 y1 y2))
 | 0 => fun _ _ _ r h => by simp [laws_markNearS.l0] at h
 | k + 1 => by
  have ih0 := laws_markNearS.mono_l k
  ·intro y0 y1 y2
   unfold laws_markNearS.l0
   with_reducible repeat' (first | apply ih0 | exact LeO.refl _ | exact LeO.none _ | refine LeO.ite ?_ ?_ | refine LeO.bind ?_ (fun _ => ?_))
theorem laws_markNearS.mono : ∀ a0 a1 k, LeO (laws_markNearS.f k a0 a1) (laws_markNearS.f (k + 1) a0 a1) := by
 intro a0 a1 k
 have ih0 := laws_markNearS.mono_l k
 unfold laws_markNearS.f
 with_reducible repeat' (first | apply ih0 | exact LeO.refl _ | exact LeO.none _ | refine LeO.ite ?_ ?_ | refine LeO.bind ?_ (fun _ => ?_))
set_option maxHeartbeats 8000000 in
set_option maxRecDepth 100000 in
theorem laws_markNearS.calls (k : Nat) (P0_ : Nat → Prop) (u9000_ : Value) (l0 : List (S63)) (a1 : Int) (r1 : Int) (r2 : List (S63)) (w0 w : World) (hB : Below w0.heap.size w0 w) (ho0 : Kd.R k63 63 w w0.heap.size P0_ u9000_ l0) (h : laws_markNearS.f k l0 a1 = some (r1, r2)) :
  Calls Try.prog 44 #[u9000_, .int .i64 a1] w fun e w' => e = .returned (.int .i64 r1) ∧ Kd.R k63 63 w' w0.heap.size (fun k_ => (P0_ k_ ∨ w.heap.size ≤ k_)) u9000_ r2 ∧ Below w0.heap.size w0 w' ∧ Kept w w' (fun k_ => P0_ k_) := by
 have Ap := ak (show Kd.R k63 63 w w0.heap.size (fun k_ => (P0_ k_ ∨ w.heap.size ≤ k_)) u9000_ l0 from Kd.R_mono ho0 (fun k_ hk => (.inl hk)))
 have HK := ak (Kept.refl w (fun k_ => P0_ k_))
 have HW0 := ak hB.size; have HB := ak hB; clear hB; have H := h
 clear h; unfold laws_markNearS.f at H; have H' := ak H; clear H
 go_enter Try.func44, Try.ntmps44
 go_wp2
 go_loopg [1, 5] k (fun kq v1 v5 w' => ∃ (Ab : List (S63)) (Ad : Int) (Aa : Int), v1 = .int .i64 Ad ∧ v5 = .int .i64 Aa ∧ Aside0 (laws_markNearS.l0 kq Ab Ad Aa = some (r1, r2)) ∧ Aside0 (kq ≤ k) ∧ Aside0 (Kd.R k63 63 w' w0.heap.size (fun k_ => (P0_ k_ ∨ w.heap.size ≤ k_)) u9000_ Ab) ∧ Aside0 (Kept w w' (fun k_ => P0_ k_)) ∧ Aside0 (Below w0.heap.size w0 w'))
 case atStart => exact ⟨(l0), (a1), (0), rs_q, rs_q, H', ⟨Nat.le_refl _⟩, ⟨kR_q Ap⟩, ⟨hk_q HK⟩, ⟨bw_q HB⟩⟩
 case round =>
  clear H'; (try clear p2); obtain ⟨Ab, Ad, Aa, rfl, rfl, HA, Am, Ac, HK, HB⟩ := hrel
  cases gk with
  | zero => exact absurd HA.out (by simp [laws_markNearS.l0])
  | succ k1 =>
   have H := HA.out; clear HA
   simp only [laws_markNearS.l0] at H
   by_cases c3 : Aa < (Ab.length : Int)
   ·rw [if_pos c3] at H
    have Ao : decide (Aa < (Ab.length : Int)) = true := decide_eq_true c3
    clear c3
    by_cases c4 : 0 ≤ Aa
    ·rw [if_pos c4] at H
     have Au : decide (0 ≤ Aa) = true := decide_eq_true c4
     clear c4; obtain ⟨Ae, Af⟩ : ∃ y_ : List (S63), y_ = (Ab.set (Aa : Int).toNat (⟨Ad, (rd_T63 Ab Aa).f1⟩ : S63)) := ⟨_, rfl⟩
     replace H : (laws_markNearS.l0 k1 (Ae.set (Aa : Int).toNat (⟨(rd_T63 Ae Aa).f0, wrap64 (Ad + 1)⟩ : S63)) (wrap64 ((wrap64 (Ad + 1)) + 1)) (wrap64 (Aa + 1))) = some (r1, r2) := by first | (rw [Af]; with_reducible exact H) | (have H2_ := (Option.bind_some _ _).symm.trans H; rw [Af]; with_reducible exact H2_) | (have H2_ := (Option.bind_some _ _).symm.trans H; with_reducible exact H2_) | with_reducible exact H | (rw [Af]; exact H) | exact H
     have Aj := ak Af; clear Af; obtain ⟨Ah, Ag⟩ : ∃ y_ : List (S63), y_ = (Ae.set (Aa : Int).toNat (⟨(rd_T63 Ae Aa).f0, wrap64 (Ad + 1)⟩ : S63)) := ⟨_, rfl⟩
     replace H : (laws_markNearS.l0 k1 Ah (wrap64 ((wrap64 (Ad + 1)) + 1)) (wrap64 (Aa + 1))) = some (r1, r2) := by first | (rw [Ag]; with_reducible exact H) | (have H2_ := (Option.bind_some _ _).symm.trans H; rw [Ag]; with_reducible exact H2_) | (have H2_ := (Option.bind_some _ _).symm.trans H; with_reducible exact H2_) | with_reducible exact H | (rw [Ag]; exact H) | exact H
     have Ak := ak Ag; clear Ag; have H' := ak H; clear H; obtain ⟨Ao7, co7, eo7⟩ := Kd.R_slice Ac.out; subst eo7
     have p5 : 0 ≤ (Aa : Int) := of_decide_eq_true as_q
     have q5 : (Aa : Int) < ((Ab.length : Int) : Int) := of_decide_eq_true as_q
     obtain ⟨go5, co5, eo5, An, gl5, cl5, HG5⟩ := Kd.R_form Ac.out (by omega)
     (first | cases eo5 | (injection eo5 with ea_ en_ ec_; (first | subst ea_ | (injection ea_ with ea_; subst ea_)); subst ec_; clear en_))
     have GB5 := ak An; have GG5 := ak HG5; clear An gl5 HG5
     have HMgo5 := ak (show (P0_ go5 ∨ w.heap.size ≤ go5) from (Ac.out.1 _ rfl))
     obtain ⟨ce5, hcl5, hM5, hcc5, hfr5⟩ := Kd.R_elem Ac.out z63 (Aa : Int) p5 q5; obtain rfl := k63_openM hM5
     have Aq : wr.cell? ⟨go5, (Aa : Int).toNat * 2, none⟩ = some (.int .i64 ((rd_T63 Ab Aa).f0)) := hcc5 0 _ rfl
     have Ar : wr.cell? ⟨go5, (Aa : Int).toNat * 2 + 1, none⟩ = some (.int .i64 ((rd_T63 Ab Aa).f1)) := hcc5 1 _ rfl
     have hf5_0 : wr.frozen? ⟨go5, (Aa : Int).toNat * 2, none⟩ = false := hfr5 0
     have hf5_1 : wr.frozen? ⟨go5, (Aa : Int).toNat * 2 + 1, none⟩ = false := hfr5 1
     clear hcl5 hcc5 hfr5 hM5; replace p5 := eq_true p5; replace q5 := eq_true q5
     have HX8 := ak (show Kd.R k63 63 wr w0.heap.size (fun k_ => (P0_ k_ ∨ w.heap.size ≤ k_)) (.slice (some ⟨go5, 0, none⟩) Ab.length co7) Ab from (kR_q Ac))
     obtain ⟨ce8, hcl8, hM8, hcc8, hfr8⟩ := Kd.R_elem HX8.out z63 (Aa : Int) (of_decide_eq_true as_q) (by have h_ : (Aa : Int) < ((Ab.length : Int) : Int) := of_decide_eq_true as_q; first | exact h_ | (have e_ := (Kd.R_reads' Ac.out).1; omega) | simpa using h_)
     obtain rfl := k63_openM hM8
     have HP8 := Kd.R_seg HX8.out (Aa : Int) (of_decide_eq_true as_q) (by have h_ : (Aa : Int) < ((Ab.length : Int) : Int) := of_decide_eq_true as_q; first | exact h_ | (have e_ := (Kd.R_reads' Ac.out).1; omega) | simpa using h_) (seg := [.int .i64 Ad]) (j := 0) hcl8 hcc8 (show 1 ≤ 2 from by decide) (x' := (⟨Ad, (rd_T63 Ab Aa).f1⟩ : S63)) (k63_mkM _ _ _ (⟨Ad, (rd_T63 Ab Aa).f1⟩ : S63) ) (fun _ hk => hk)
     have Al := hcc8 0 _ rfl
     (try simp only [show (k63).sz = 2 from rfl, Nat.mul_one, Nat.add_zero] at Al)
     have hf8_0 := hfr8 0
     (try simp only [show (k63).sz = 2 from rfl, Nat.mul_one, Nat.add_zero] at hf8_0)
     clear hcl8 hcc8 hfr8 hM8
     go_wp2_with (first | ((with_reducible refine gate_store (t := 3) (p := 16) rfl ?_); refine store_event (t := 3) (p := 16) (v := ?vo_w9) (w1 := (wr.setCell ⟨go5, (Aa : Int).toNat * 2, none⟩ (.int .i64 Ad))) ?hg ?ho ?hn ?hr ?_; (case ho => rfl); (case hg => rfl); (case hn => rfl); (case hr => first | (go_simp; done) | (go_simp; rfl)); intro w9 hw; have hg : wr.grownBy w9 (some go5) := (by rw [hw]; exact HP8.2); have hp_ : Kd.R k63 63 w9 w0.heap.size (fun k_ => (P0_ k_ ∨ w.heap.size ≤ k_)) (.slice (some ⟨go5, 0, none⟩) Ab.length co7) Ae := (by rw [hw, Aj.out]; exact HP8.1); clear HP8; replace HB := ak ((by rw [hw]; exact below_set (HB.out) GB5.out : Below w0.heap.size w0 w9)); replace HK := ak (Kept.of_grown (S := (fun k_ => P0_ k_)) hg (hk_q HK) (fun k_ e_ => (Ac.out.1 k_ e_))); replace Ac := ak (hp_); clear hg hw hp_; have p6 : 0 ≤ (Aa : Int) := of_decide_eq_true as_q; have q6 : (Aa : Int) < ((Ab.length : Int) : Int) := of_decide_eq_true as_q; obtain ⟨ce6, hcl6, hM6, hcc6, hfr6⟩ := Kd.R_elem Ac.out z63 (Aa : Int) p6 q6; obtain rfl := k63_openM hM6; have As : w9.cell? ⟨go5, (Aa : Int).toNat * 2, none⟩ = some (.int .i64 ((rd_T63 Ae Aa).f0)) := hcc6 0 _ rfl; have At : w9.cell? ⟨go5, (Aa : Int).toNat * 2 + 1, none⟩ = some (.int .i64 ((rd_T63 Ae Aa).f1)) := hcc6 1 _ rfl; have hf6_0 : w9.frozen? ⟨go5, (Aa : Int).toNat * 2, none⟩ = false := hfr6 0; have hf6_1 : w9.frozen? ⟨go5, (Aa : Int).toNat * 2 + 1, none⟩ = false := hfr6 1; clear hcl6 hcc6 hfr6 hM6; replace p6 := eq_true p6; replace q6 := eq_true q6; have HX10 := ak (show Kd.R k63 63 w9 w0.heap.size (fun k_ => (P0_ k_ ∨ w.heap.size ≤ k_)) (.slice (some ⟨go5, 0, none⟩) Ab.length co7) Ae from (kR_q Ac)); obtain ⟨ce10, hcl10, hM10, hcc10, hfr10⟩ := Kd.R_elem HX10.out z63 (Aa : Int) (of_decide_eq_true as_q) (by have h_ : (Aa : Int) < ((Ab.length : Int) : Int) := of_decide_eq_true as_q; first | exact h_ | (have e_ := (Kd.R_reads' Ac.out).1; omega) | simpa using h_); obtain rfl := k63_openM hM10; have HP10 := Kd.R_seg HX10.out (Aa : Int) (of_decide_eq_true as_q) (by have h_ : (Aa : Int) < ((Ab.length : Int) : Int) := of_decide_eq_true as_q; first | exact h_ | (have e_ := (Kd.R_reads' Ac.out).1; omega) | simpa using h_) (seg := [.int .i64 (wrap64 (Ad + 1))]) (j := 1) hcl10 hcc10 (show 2 ≤ 2 from by decide) (x' := (⟨(rd_T63 Ae Aa).f0, wrap64 (Ad + 1)⟩ : S63)) (k63_mkM _ _ _ (⟨(rd_T63 Ae Aa).f0, wrap64 (Ad + 1)⟩ : S63) ) (fun _ hk => hk); have Ai := hcc10 1 _ rfl; (try simp only [show (k63).sz = 2 from rfl, Nat.mul_one, Nat.add_zero] at Ai); have hf10_1 := hfr10 1; (try simp only [show (k63).sz = 2 from rfl, Nat.mul_one, Nat.add_zero] at hf10_1); clear hcl10 hcc10 hfr10 hM10) | ((with_reducible refine gate_store (t := 3) (p := 23) rfl ?_); refine store_event (t := 3) (p := 23) (v := ?vo_w11) (w1 := (w9.setCell ⟨go5, (Aa : Int).toNat * 2 + 1, none⟩ (.int .i64 (wrap64 (Ad + 1))))) ?hg ?ho ?hn ?hr ?_; (case ho => rfl); (case hg => rfl); (case hn => rfl); (case hr => first | (go_simp; done) | (go_simp; rfl)); intro w11 hw; have hg : w9.grownBy w11 (some go5) := (by rw [hw]; exact HP10.2); have hp_ : Kd.R k63 63 w11 w0.heap.size (fun k_ => (P0_ k_ ∨ w.heap.size ≤ k_)) (.slice (some ⟨go5, 0, none⟩) Ab.length co7) Ah := (by rw [hw, Ak.out]; exact HP10.1); clear HP10; replace HB := ak ((by rw [hw]; exact below_set (HB.out) GB5.out : Below w0.heap.size w0 w11)); replace HK := ak (Kept.of_grown (S := (fun k_ => P0_ k_)) hg (hk_q HK) (fun k_ e_ => (Ac.out.1 k_ e_))); replace Ac := ak (hp_); clear hg hw hp_))
     go_roundg k1
     case measure => have := Am.out; omega
     case rel => exact ⟨(Ah), (wrap64 ((wrap64 (Ad + 1)) + 1)), (wrap64 (Aa + 1)), rs_q, rs_q, H', ⟨by have := Am.out; omega⟩, ⟨kR_q Ac⟩, ⟨hk_q HK⟩, ⟨bw_q HB⟩⟩
    ·rw [if_neg c4] at H
     exact absurd H (by simp)
   ·rw [if_neg c3] at H
    have Ao : decide (Aa < (Ab.length : Int)) = false := decide_eq_false c3
    clear c3
    simp only [Option.some.injEq, Prod.mk.injEq] at H
    obtain ⟨rfl, rfl⟩ := H; obtain ⟨Ao12, co12, eo12⟩ := Kd.R_slice Ac.out; subst eo12
    go_wp2
    go_ret
    exact ⟨er_q, kR_q Ac, bw_q HB, hk_q HK⟩

end Go.Proofs.Ytnecbkognpponaa.Q
